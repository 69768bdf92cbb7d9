import PyProof.Rows.All
import Wide.All
import OpenK.AllK
import Wide.FinOn
import HandS.ForMost
import HandS.ForExc
import HandS.Evl
import HandS.Walk
import HandS.IsInst
import HandS.TupAny
import HandS.Deep
import HandS.Flow
import HandS.Wide
import HandS.Text
import HandS.CallSlots
import HandS.ExcInit
import HandS.ExcField
import HandS.ExcIs
import KE.KExcIs
import HandS.FStr
import HandS.Iter
import HandS.Zip0
import PyProof.EnumMake
import PyProof.Draws
import HandS.Style
import HandS.ClsMeth
import KE.GoesMore
import KE.GoesZip
import PyProof.StrOps2
import PyProof.Rows.MatchSeqLen
import KE.KUnpack
import HandS.NoneIn
import HandS.More
import HandS.Star
import HandS.SlotsOwn
import HandS.OwnIter
import HandS.IterVal
import KE.KCallOwn
import KE.KOwnIter
import HandS.TupLen
import HandS.Property
import HandS.Conv
import HandS.SortRule
import KE.KDictDisplayH
import HandS.Defaults
import HandS.TryOnly
import HandS.SortInts
import HandS.SortOrd
import HandS.DictComp
import KE.DataMinMax
import KE.KDictCopyH
import HandS.ListItems
import PyProof.ListStr
import HandS.HotCalls
import PyProof.InstNe
import HandS.MakeKwOnly
import KE.KTupSum
import HandS.TryMany
import KE.KEqDict
import PyProof.EqKinds
import HandS.RaiseMore
import HandS.StrMore
import HandS.TupLe
import HandS.OwnEq
import PySem.Challenge.RW_laidforall_k11_ranks
set_option Elab.async false
set_option linter.all false
set_option maxRecDepth 100000
section S_DxA
set_option Elab.async false
set_option linter.all false
set_option maxRecDepth 100000
namespace Dx
open PySem L2
/-- data: what a value stands for, whatever its address -/
inductive D where
  | non
  | bl (b : Bool)
  | int (i : Int)
  | str (s : Str)
  | lst (xs : List D)
  | fz (xs : List D)
  | tup (xs : List D)
  | kt (xs : List D)
  | dk (ks : List Key) (vs : List D)
  | dt (ks : List (List Key)) (vs : List D)
  | obj (c : Str) (ns : List Str) (vs : List D)
  | own (k : Nat)
  | st (k : Nat) (rows : List (List D))
/-- where the classes of the text stand -/
abbrev CM := Str → Option Addr
/-- H' knows all that H knows -/
def Ex (H H' : Hp) : Prop := ∀ a o, H a = some o → H' a = some o
theorem Ex.refl {H : Hp} : Ex H H := fun _ _ h => h
theorem Ex.trans {H H1 H2 : Hp} (a : Ex H H1) (b : Ex H1 H2) : Ex H H2 := fun x o h => b x o (a x o h)
theorem Ex.nn {H H' : Hp} (e : Ex H H') {p : Addr} (h : H' p = none) : H p = none := by
  cases h1 : H p with
  | none => rfl
  | some o => rw [e p o h1] at h; cases h
theorem Ex.new {H : Hp} {p : Addr} {o : HO} (h : H p = none) : Ex H (upd H p o) := fun a u e => by
  rw [upd_ne (ne_of_none e h)]; exact e
theorem Ex.put {H H' : Hp} {p : Addr} {o : HO} (e : Ex H H') (h : H p = none) : Ex H (upd H' p o) := fun a u ha => by
  rw [upd_ne (ne_of_none ha h)]; exact e a u ha
theorem Ex.both {S H : Hp} {p : Addr} {o : HO} (e : Ex S H) : Ex (upd S p o) (upd H p o) := fun a u ha => by
  by_cases h : a = p
  · subst h; rw [upd_same] at ha ⊢; exact ha
  · rw [upd_ne h] at ha ⊢; exact e a u ha
theorem Ex.rd {H H' : Hp} {a : Addr} {u : HO} (e : Ex H H') (h : Rd H a u) : Rd H' a u := by
  rcases h with h | ⟨o, h⟩
  · exact .inl (e a _ h)
  · exact .inr ⟨o, e a _ h⟩
theorem Ex.l {K : PySem.W.Frag} {H H' : Hp} {a : Addr} {xs : List V} (e : Ex H H') (h : SqL K H a xs) : SqL K H' a xs := by
  rcases h with h | h
  · exact .inl (e.rd h)
  · exact .inr h
theorem Ex.t {K : PySem.W.Frag} {H H' : Hp} {a : Addr} {xs : List V} (e : Ex H H') (h : SqT K H a xs) : SqT K H' a xs := by
  rcases h with h | h
  · exact .inl (e.rd h)
  · exact .inr h
mutual
/-- the value v, at the heap S, stands for the data -/
inductive Rp (K : PySem.W.Frag) (cm : CM) (S : Hp) : V → D → Prop
  | non : Rp K cm S .non .non
  | bl (b : Bool) : Rp K cm S (.bl b) (.bl b)
  | int (i : Int) : Rp K cm S (.int i) (.int i)
  | str (x : Str) : Rp K cm S (.str x) (.str x)
  | lst {a : Addr} {xs : List V} {ds : List D} : S a = some (.lst xs) → RpA K cm S xs ds → Rp K cm S (.ref a) (.lst ds)
  | fz {a : Addr} {xs : List V} {ds : List D} : SqL K S a xs → RpA K cm S xs ds → Rp K cm S (.ref a) (.fz ds)
  | tup {a : Addr} {xs : List V} {ds : List D} : S a = some (.tup xs) → RpA K cm S xs ds → Rp K cm S (.ref a) (.tup ds)
  | kt {a : Addr} {xs : List V} {ds : List D} : SqT K S a xs → RpA K cm S xs ds → Rp K cm S (.ref a) (.kt ds)
  | dk {a : Addr} {w : Obj} {kvs : List (Key × V)} {ks : List Key} {ds : List D} : S a = some (.frz w (.dK kvs)) → ks = kvs.map (·.1) → RpA K cm S (kvs.map (·.2)) ds → Rp K cm S (.ref a) (.dk ks ds)
  | dt {a : Addr} {w : Obj} {kvs : List (List Key × V)} {ks : List (List Key)} {ds : List D} : S a = some (.frz w (.dT kvs)) → ks = kvs.map (·.1) → RpA K cm S (kvs.map (·.2)) ds → Rp K cm S (.ref a) (.dt ks ds)
  | obj {a C dx : Addr} {c : Str} {fs : List (Str × V)} {ns : List Str} {ds : List D} : cm c = some C → S a = some (.ins C dx fs) → ns = fs.map (·.1) → RpA K cm S (fs.map (·.2)) ds → Rp K cm S (.ref a) (.obj c ns ds)
inductive RpA (K : PySem.W.Frag) (cm : CM) (S : Hp) : List V → List D → Prop
  | nil : RpA K cm S [] []
  | cons {v : V} {vs : List V} {d : D} {ds : List D} : Rp K cm S v d → RpA K cm S vs ds → RpA K cm S (v :: vs) (d :: ds)
end
section
variable {K : PySem.W.Frag} {cm : CM} {S S' : Hp}
mutual
theorem Rp.mono (e : Ex S S') : ∀ {v : V} {d : D}, Rp K cm S v d → Rp K cm S' v d
  | _, .non, h => by cases h; exact .non
  | _, .bl _, h => by cases h; exact .bl _
  | _, .int _, h => by cases h; exact .int _
  | _, .str _, h => by cases h; exact .str _
  | _, .lst ds, h => by cases h with | lst q r => exact .lst (e _ _ q) (RpA.mono e r)
  | _, .fz ds, h => by cases h with | fz q r => exact .fz (e.l q) (RpA.mono e r)
  | _, .tup ds, h => by cases h with | tup q r => exact .tup (e _ _ q) (RpA.mono e r)
  | _, .kt ds, h => by cases h with | kt q r => exact .kt (e.t q) (RpA.mono e r)
  | _, .dk _ ds, h => by cases h with | dk q k r => exact .dk (e _ _ q) k (RpA.mono e r)
  | _, .dt _ ds, h => by cases h with | dt q k r => exact .dt (e _ _ q) k (RpA.mono e r)
  | _, .obj _ _ ds, h => by cases h with | obj c q k r => exact .obj c (e _ _ q) k (RpA.mono e r)
theorem RpA.mono (e : Ex S S') : ∀ {vs : List V} {ds : List D}, RpA K cm S vs ds → RpA K cm S' vs ds
  | _, [], h => by cases h; exact .nil
  | _, d :: ds, h => by cases h with | cons a r => exact .cons (Rp.mono e a) (RpA.mono e r)
end
theorem RpA.length : ∀ {vs : List V} {ds : List D}, RpA K cm S vs ds → vs.length = ds.length
  | _, _, .nil => rfl
  | _, _, .cons _ r => by simp [RpA.length r]
theorem RpA.get : ∀ {vs : List V} {ds : List D} {i : Nat} {d : D}, RpA K cm S vs ds → ds[i]? = some d → ∃ v, vs[i]? = some v ∧ Rp K cm S v d
  | _, _, _, _, .nil, e => by simp at e
  | _, _, 0, _, .cons h _, e => by simp at e; subst e; exact ⟨_, by simp, h⟩
  | _, _, i + 1, d, .cons _ r, e => by
    obtain ⟨v, h1, h2⟩ := RpA.get (i := i) (d := d) r (by simpa using e)
    exact ⟨v, by simpa using h1, h2⟩
theorem RpA.getV : ∀ {vs : List V} {ds : List D} {i : Nat} {v : V}, RpA K cm S vs ds → vs[i]? = some v → ∃ d, ds[i]? = some d ∧ Rp K cm S v d
  | _, _, _, _, .nil, e => by simp at e
  | _, _, 0, _, .cons h _, e => by simp at e; subst e; exact ⟨_, by simp, h⟩
  | _, _, i + 1, v, .cons _ r, e => by
    obtain ⟨d, h1, h2⟩ := RpA.getV (i := i) (v := v) r (by simpa using e)
    exact ⟨d, by simpa using h1, h2⟩
theorem RpA.app : ∀ {vs us : List V} {ds es : List D}, RpA K cm S vs ds → RpA K cm S us es → RpA K cm S (vs ++ us) (ds ++ es)
  | _, _, _, _, .nil, s => s
  | _, _, _, _, .cons h r, s => .cons h (RpA.app r s)
theorem RpA.one {v : V} {d : D} (h : Rp K cm S v d) : RpA K cm S [v] [d] := .cons h .nil
theorem RpA.take : ∀ {vs : List V} {ds : List D} (n : Nat), RpA K cm S vs ds → RpA K cm S (vs.take n) (ds.take n)
  | _, _, 0, _ => .nil
  | _, _, _ + 1, .nil => .nil
  | _, _, n + 1, .cons h r => .cons h (RpA.take n r)
theorem RpA.drop : ∀ {vs : List V} {ds : List D} (n : Nat), RpA K cm S vs ds → RpA K cm S (vs.drop n) (ds.drop n)
  | _, _, 0, r => r
  | _, _, _ + 1, .nil => .nil
  | _, _, n + 1, .cons _ r => RpA.drop n r
theorem RpA.set {v : V} {d : D} (h : Rp K cm S v d) : ∀ {vs : List V} {ds : List D} (i : Nat), RpA K cm S vs ds → RpA K cm S (vs.set i v) (ds.set i d)
  | _, _, _, .nil => .nil
  | _, _, 0, .cons _ r => .cons h r
  | _, _, i + 1, .cons q r => .cons q (RpA.set h i r)
theorem RpA.reverse : ∀ {vs : List V} {ds : List D}, RpA K cm S vs ds → RpA K cm S vs.reverse ds.reverse
  | _, _, .nil => .nil
  | _, _, .cons h r => by rw [List.reverse_cons, List.reverse_cons]; exact (RpA.reverse r).app (.one h)
end
/-- the content of a mutable object stands for the data, its parts at S -/
inductive RpO (K : PySem.W.Frag) (cm : CM) (S : Hp) : HO → D → Prop
  | lst {xs : List V} {ds : List D} : RpA K cm S xs ds → RpO K cm S (.lst xs) (.lst ds)
  | dk {kvs : List (Key × V)} {ks : List Key} {ds : List D} : ks = kvs.map (·.1) → RpA K cm S (kvs.map (·.2)) ds → RpO K cm S (.dK kvs) (.dk ks ds)
  | dt {kvs : List (List Key × V)} {ks : List (List Key)} {ds : List D} : ks = kvs.map (·.1) → RpA K cm S (kvs.map (·.2)) ds → RpO K cm S (.dT kvs) (.dt ks ds)
  | obj {C dx : Addr} {c : Str} {fs : List (Str × V)} {ns : List Str} {ds : List D} : cm c = some C → ns = fs.map (·.1) → RpA K cm S (fs.map (·.2)) ds → RpO K cm S (.ins C dx fs) (.obj c ns ds)
theorem RpO.mono {K : PySem.W.Frag} {cm : CM} {S S' : Hp} (e : Ex S S') {o : HO} {d : D} (h : RpO K cm S o d) : RpO K cm S' o d := by
  cases h with
  | lst r => exact .lst (r.mono e)
  | dk k r => exact .dk k (r.mono e)
  | dt k r => exact .dt k (r.mono e)
  | obj c k r => exact .obj c k (r.mono e)
def isDct : D → Bool
  | .dk _ _ => true
  | .dt _ _ => true
  | _ => false
theorem RpO.pub {K : PySem.W.Frag} {cm : CM} {S : Hp} {o : HO} {d : D} {p : Addr} (h : RpO K cm S o d) (nd : isDct d = false) (hp : S p = o) : Rp K cm S (.ref p) d := by
  cases h with
  | lst r => exact .lst hp r
  | dk k r => cases nd
  | dt k r => cases nd
  | obj c k r => exact .obj c hp k r
theorem RpO.pubD {K : PySem.W.Frag} {cm : CM} {S : Hp} {o : HO} {d : D} {p : Addr} {w : Obj} (h : RpO K cm S o d) (nd : isDct d = true) (hp : S p = some (.frz w o)) : Rp K cm S (.ref p) d ∧ Mut (some o) := by
  cases h with
  | lst r => cases nd
  | dk k r => exact ⟨.dk hp k r, trivial⟩
  | dt k r => exact ⟨.dt hp k r, trivial⟩
  | obj c k r => cases nd
theorem RpO.mut {K : PySem.W.Frag} {cm : CM} {S : Hp} {o : HO} {d : D} (h : RpO K cm S o d) : Mut (some o) := by
  cases h <;> trivial
/-- not there, or a tuple -/
def Old (o : Option HO) : Prop := o = none ∨ ∃ xs, o = some (.tup xs)
theorem Old.back {H H' : Hp} (e : Ex H H') {a : Addr} (h : Old (H' a)) : Old (H a) := by
  cases q : H a with
  | none => exact .inl rfl
  | some u =>
    rw [e a u q] at h
    rcases h with h | ⟨xs, h⟩
    · cases h
    · cases h; exact .inr ⟨xs, rfl⟩
theorem Old.not {H : Hp} {a : Addr} {o : HO} (h : Old (H a)) (q : H a = some o) : ∃ xs, o = .tup xs := by
  rw [q] at h
  rcases h with h | ⟨xs, h⟩
  · cases h
  · cases h; exact ⟨xs, rfl⟩
/-- S is the part of H that stays; from (S, H) to (S', H') nothing known has changed -/
structure Fwd (S H S' H' : Hp) : Prop where
  s : Ex S S'
  h : Ex H H'
  sub : Ex S' H'
  new : ∀ a o, S' a = some o → S a = none → Old (H a)
theorem Fwd.refl {S H : Hp} (e : Ex S H) : Fwd S H S H := ⟨Ex.refl, Ex.refl, e, fun a o h n => by rw [n] at h; cases h⟩
theorem Fwd.trans {S H S1 H1 S2 H2 : Hp} (a : Fwd S H S1 H1) (b : Fwd S1 H1 S2 H2) : Fwd S H S2 H2 :=
  ⟨a.s.trans b.s, a.h.trans b.h, b.sub, fun p o h n => by
    cases e : S1 p with
    | some u => exact a.new p u e n
    | none => exact (b.new p o h e).back a.h⟩
theorem Fwd.both {S H : Hp} {p : Addr} {o : HO} (e : Ex S H) (n : H p = none) : Fwd S H (upd S p o) (upd H p o) :=
  ⟨Ex.new (e.nn n), Ex.new n, e.both, fun a u h m => by
    by_cases ha : a = p
    · subst ha; exact .inl n
    · rw [upd_ne ha, m] at h; cases h⟩
theorem Fwd.heap {S H : Hp} {p : Addr} {o : HO} (e : Ex S H) (n : H p = none) : Fwd S H S (upd H p o) :=
  ⟨Ex.refl, Ex.new n, e.put (e.nn n), fun a u h m => by rw [m] at h; cases h⟩
/-- a new object known to H' alone becomes one that stays -/
theorem Fwd.pub {S H S' H' : Hp} {p : Addr} {o : HO} (f : Fwd S H S' H') (n : H p = none) (ns : S' p = none) (h : H' p = some o) : Fwd S H (upd S' p o) H' :=
  ⟨f.s.trans (Ex.new ns), f.h, fun a u ha => by
    by_cases hh : a = p
    · subst hh; rw [upd_same] at ha; rw [h]; exact ha
    · rw [upd_ne hh] at ha; exact f.sub a u ha, fun a u ha m => by
    by_cases hh : a = p
    · subst hh; exact .inl n
    · rw [upd_ne hh] at ha; exact f.new a u ha m⟩
inductive Res (α : Type) where
  | ok (a : α)
  | err (c : Str) (ns : List Str) (vs : List D)
  | bad
@[inline] def Res.bind {α β : Type} : Res α → (α → Res β) → Res β
  | .ok a, k => k a
  | .err c ns vs, _ => .err c ns vs
  | .bad, _ => .bad
instance : Monad Res where
  pure := Res.ok
  bind := Res.bind
abbrev Rho := List (Option D)
/-- the end of a statement -/
inductive SR where
  | nx (r : Rho)
  | rt (d : D)
  | bk (r : Rho)
  | ct (r : Rho)
  | er (r : Rho) (c : Str) (ns : List Str) (vs : List D)
  | bad
inductive Ow where
  | v | o | b | w
  | s (pre : List Addr)
  | x (a C dd : Addr)
  | i (a : Addr)
def isO : Ow → Prop
  | .o => True
  | .i _ => True
  | _ => False
structure Cf where
  K : PySem.W.Frag
  cm : CM
  W : WX
  ge : Option (List Ow)
  rm : Bool
/-- a value, or a mutable object read at H whose parts stay -/
def RpB (K : PySem.W.Frag) (cm : CM) (S H : Hp) (v : V) (d : D) : Prop :=
  Rp K cm S v d ∨ ∃ p ho, v = .ref p ∧ H p = some ho ∧ RpO K cm S ho d
section
variable {K : PySem.W.Frag} {cm : CM} {S S' H H' : Hp} {v : V} {d : D}
theorem RpB.mono (h : RpB K cm S H v d) (e : Ex S S') (e' : Ex H H') : RpB K cm S' H' v d := by
  rcases h with h | ⟨p, ho, h1, h2, h3⟩
  · exact .inl (h.mono e)
  · exact .inr ⟨p, ho, h1, e' _ _ h2, h3.mono e⟩
theorem RpB.list {ds : List D} (h : RpB K cm S H v (.lst ds)) (e : Ex S H) : ∃ p xs, v = .ref p ∧ H p = some (.lst xs) ∧ RpA K cm S xs ds := by
  rcases h with h | ⟨p, ho, h1, h2, h3⟩
  · cases h with | lst q r => exact ⟨_, _, rfl, e _ _ q, r⟩
  · cases h3 with | lst r => exact ⟨p, _, h1, h2, r⟩
theorem RpB.int {i : Int} (h : RpB K cm S H v (.int i)) : v = .int i := by
  rcases h with h | ⟨p, ho, h1, h2, h3⟩
  · cases h; rfl
  · cases h3
theorem RpB.bl {b : Bool} (h : RpB K cm S H v (.bl b)) : v = .bl b := by
  rcases h with h | ⟨p, ho, h1, h2, h3⟩
  · cases h; rfl
  · cases h3
theorem RpB.non (h : RpB K cm S H v .non) : v = .non := by
  rcases h with h | ⟨p, ho, h1, h2, h3⟩
  · cases h; rfl
  · cases h3
theorem RpB.str {z : Str} (h : RpB K cm S H v (.str z)) : v = .str z := by
  rcases h with h | ⟨p, ho, h1, h2, h3⟩
  · cases h; rfl
  · cases h3
theorem RpB.tup {ds : List D} (h : RpB K cm S H v (.tup ds)) (e : Ex S H) : ∃ p xs, v = .ref p ∧ SqT K H p xs ∧ RpA K cm S xs ds ∧ S p = some (.tup xs) := by
  rcases h with h | ⟨p, ho, h1, h2, h3⟩
  · cases h with | tup q r => exact ⟨_, _, rfl, .inl (.inl (e _ _ q)), r, q⟩
  · cases h3
theorem RpB.kt {ds : List D} (h : RpB K cm S H v (.kt ds)) (e : Ex S H) : ∃ p xs, v = .ref p ∧ SqT K H p xs ∧ RpA K cm S xs ds ∧ SqT K S p xs := by
  rcases h with h | ⟨p, ho, h1, h2, h3⟩
  · cases h with | kt q r => exact ⟨_, _, rfl, e.t q, r, q⟩
  · cases h3
theorem RpB.fz {ds : List D} (h : RpB K cm S H v (.fz ds)) (e : Ex S H) : ∃ p xs, v = .ref p ∧ SqL K H p xs ∧ RpA K cm S xs ds := by
  rcases h with h | ⟨p, ho, h1, h2, h3⟩
  · cases h with | fz q r => exact ⟨_, _, rfl, e.l q, r⟩
  · cases h3
theorem RpB.dk {ks : List Key} {ds : List D} (h : RpB K cm S H v (.dk ks ds)) (e : Ex S H) : ∃ p kvs, v = .ref p ∧ Rd H p (.dK kvs) ∧ ks = kvs.map (·.1) ∧ RpA K cm S (kvs.map (·.2)) ds := by
  rcases h with h | ⟨p, ho, h1, h2, h3⟩
  · cases h with | dk q k r => exact ⟨_, _, rfl, .inr ⟨_, e _ _ q⟩, k, r⟩
  · cases h3 with | dk k r => exact ⟨p, _, h1, .inl h2, k, r⟩
theorem RpB.dt {ks : List (List Key)} {ds : List D} (h : RpB K cm S H v (.dt ks ds)) (e : Ex S H) : ∃ p kvs, v = .ref p ∧ Rd H p (.dT kvs) ∧ ks = kvs.map (·.1) ∧ RpA K cm S (kvs.map (·.2)) ds := by
  rcases h with h | ⟨p, ho, h1, h2, h3⟩
  · cases h with | dt q k r => exact ⟨_, _, rfl, .inr ⟨_, e _ _ q⟩, k, r⟩
  · cases h3 with | dt k r => exact ⟨p, _, h1, .inl h2, k, r⟩
theorem RpB.obj {n : Str} {ns : List Str} {ds : List D} (h : RpB K cm S H v (.obj n ns ds)) (e : Ex S H) : ∃ p C dx fs, v = .ref p ∧ cm n = some C ∧ H p = some (.ins C dx fs) ∧ ns = fs.map (·.1) ∧ RpA K cm S (fs.map (·.2)) ds := by
  rcases h with h | ⟨p, ho, h1, h2, h3⟩
  · cases h with | obj c q k r => exact ⟨_, _, _, _, rfl, c, e _ _ q, k, r⟩
  · cases h3 with | obj c k r => exact ⟨p, _, _, _, h1, c, h2, k, r⟩
end
/-- a value, or one of the own lists at the places A -/
def RmV (K : PySem.W.Frag) (cm : CM) (A : List Addr) (S : Hp) (v : V) (d : D) : Prop := Rp K cm S v d ∨ ∃ k a, d = .own k ∧ A[k]? = some a ∧ v = .ref a
def RmA (K : PySem.W.Frag) (cm : CM) (A : List Addr) (S : Hp) (vs : List V) (ds : List D) : Prop := vs.length = ds.length ∧ ∀ (i : Nat) v d, vs[i]? = some v → ds[i]? = some d → RmV K cm A S v d
def SlotOk (c : Cf) (H0 S H : Hp) : Ow → V → D → Prop
  | .v, v, d => Rp c.K c.cm S v d
  | .o, v, d => ∃ p ho, v = .ref p ∧ H p = some ho ∧ S p = none ∧ H0 p = none ∧ RpO c.K c.cm S ho d
  | .i a, v, d => v = .ref a ∧ ∃ p ho, v = .ref p ∧ H p = some ho ∧ S p = none ∧ H0 p = none ∧ RpO c.K c.cm S ho d
  | .b, v, d => RpB c.K c.cm S H0 v d
  | .s _, v, d => ∃ k M, d = .st k M
  | .w, v, d => ∃ k, d = .own k
  | .x a C dd, v, d => v = .ref a ∧ ∃ n ns ds fs, d = .obj n ns ds ∧ c.cm n = some C ∧ S dd = some (.xd fs) ∧ ns = fs.map (·.1) ∧ RpA c.K c.cm S (fs.map (·.2)) ds
abbrev kd (G : List Ow) (i : Nat) : Ow := G.getD i .v
/-- the own lists that stand in each other, at the places A -/
structure StoOk (K : PySem.W.Frag) (cm : CM) (H0 : Hp) (G : List Ow) (S H : Hp) (σ : St) (r : Rho) (A : List Addr) : Prop where
  nod : A.Nodup
  out : ∀ a ∈ A, S a = none ∧ H0 a = none ∧ ∃ xs, H a = some (.lst xs)
  own : ∀ i d p, r[i]? = some (some d) → isO (kd G i) → σ[i]? = some (some (.ref p)) → p ∉ A
  st : ∀ i k M P, kd G i = .s P → r[i]? = some (some (.st k M)) → (P <+: A ∧ A.length = M.length) ∧ (∃ a, A[k]? = some a ∧ σ[i]? = some (some (.ref a))) ∧ ∀ (n : Nat) row, M[n]? = some row → ∃ a xs, A[n]? = some a ∧ H a = some (.lst xs) ∧ RmA K cm A S xs row
  al : ∀ i k, kd G i = .w → r[i]? = some (some (.own k)) → ∃ a, A[k]? = some a ∧ σ[i]? = some (some (.ref a))
theorem RmA.mono {K : PySem.W.Frag} {cm : CM} {A : List Addr} {S S' : Hp} {vs : List V} {ds : List D} (h : RmA K cm A S vs ds) (e : Ex S S') : RmA K cm A S' vs ds :=
  ⟨h.1, fun i v d hv hd => (h.2 i v d hv hd).imp (fun z => z.mono e) id⟩
theorem StoOk.sub {K : PySem.W.Frag} {cm : CM} {H0 S H S' H' : Hp} {G G' : List Ow} {σ σ' : St} {r r' : Rho} {A : List Addr} (h : StoOk K cm H0 G S H σ r A) (hS : ∀ a ∈ A, S' a = none) (hH : ∀ a ∈ A, H' a = H a) (eS : Ex S S')
    (ho : ∀ i d p, r'[i]? = some (some d) → isO (kd G' i) → σ'[i]? = some (some (.ref p)) → p ∉ A)
    (hs : ∀ i d, (∃ P, kd G' i = .s P) ∨ kd G' i = .w → r'[i]? = some (some d) → kd G i = kd G' i ∧ r[i]? = some (some d) ∧ σ'[i]? = σ[i]?) : StoOk K cm H0 G' S' H' σ' r' A where
  nod := h.nod
  out := fun a ha => by
    obtain ⟨_, h2, h3⟩ := h.out a ha
    exact ⟨hS a ha, h2, by rw [hH a ha]; exact h3⟩
  own := ho
  st := fun i k M P hi hr => by
    obtain ⟨a1, a2, a3⟩ := hs i _ (.inl ⟨P, hi⟩) hr
    obtain ⟨b1, b2, b3⟩ := h.st i k M P (a1.trans hi) a2
    refine ⟨b1, by rw [a3]; exact b2, fun n row hn => ?_⟩
    obtain ⟨a, xs, c1, c2, c3⟩ := b3 n row hn
    exact ⟨a, xs, c1, by rw [hH a (List.mem_of_getElem? c1)]; exact c2, c3.mono eS⟩
  al := fun i k hi hr => by
    obtain ⟨a1, a2, a3⟩ := hs i _ (.inr hi) hr
    rw [a3]
    exact h.al i k (a1.trans hi) a2
theorem StoOk.go {K : PySem.W.Frag} {cm : CM} {H0 S H S' H' : Hp} {G : List Ow} {σ : St} {r : Rho} {A : List Addr} (h : StoOk K cm H0 G S H σ r A) (f : Fwd S H S' H') : StoOk K cm H0 G S' H' σ r A :=
  h.sub (fun a ha => by
    obtain ⟨h1, _, xs, h3⟩ := h.out a ha
    cases e : S' a with
    | none => rfl
    | some u => obtain ⟨ys, z⟩ := (f.new a u e h1).not h3; cases z) (fun a ha => by
    obtain ⟨_, _, xs, h3⟩ := h.out a ha
    rw [h3]; exact f.h a _ h3) f.s h.own fun i d hi hr => ⟨rfl, hr, rfl⟩
/-- no such lists -/
theorem StoOk.nil {K : PySem.W.Frag} {cm : CM} {H0 S H : Hp} {G : List Ow} {σ : St} {r : Rho} (h : ∀ i d, r[i]? = some (some d) → (∀ P, kd G i ≠ .s P) ∧ kd G i ≠ .w) : StoOk K cm H0 G S H σ r [] where
  nod := List.nodup_nil
  out := fun a ha => by cases ha
  own := fun i d p _ _ _ hp => by cases hp
  st := fun i k M P hi hr => absurd hi ((h i _ hr).1 P)
  al := fun i k hi hr => absurd hi (h i _ hr).2
structure EnvOk (c : Cf) (S0 H0 : Hp) (G : List Ow) (S H : Hp) (σ : St) (r : Rho) : Prop where
  fwd : Fwd S0 H0 S H
  len : σ.length = r.length
  slot : ∀ i d, r[i]? = some (some d) → ∃ v, σ[i]? = some (some v) ∧ SlotOk c H0 S H (kd G i) v d
  sep : ∀ i j d e p, r[i]? = some (some d) → r[j]? = some (some e) → isO (kd G i) → isO (kd G j) → σ[i]? = some (some (.ref p)) → σ[j]? = some (some (.ref p)) → i = j
  sto : ∃ A, StoOk c.K c.cm H0 G S H σ r A
section
variable {c : Cf} {S0 H0 S H S' H' : Hp} {G : List Ow} {σ : St} {r : Rho}
theorem SlotOk.o_of {k : Ow} {v : V} {d : D} (h : SlotOk c H0 S H k v d) (q : isO k) : ∃ p ho, v = .ref p ∧ H p = some ho ∧ S p = none ∧ H0 p = none ∧ RpO c.K c.cm S ho d := by
  cases k with
  | o => exact h
  | i a => exact h.2
  | _ => cases q
theorem SlotOk.mono {k : Ow} {v : V} {d : D} (h : SlotOk c H0 S H k v d) (f : Fwd S H S' H') : SlotOk c H0 S' H' k v d := by
  cases k with
  | v => exact Rp.mono f.s h
  | o =>
    obtain ⟨p, ho, h1, h2, h3, h4, h5⟩ := h
    refine ⟨p, ho, h1, f.h p _ h2, ?_, h4, h5.mono f.s⟩
    cases e : S' p with
    | none => rfl
    | some u => obtain ⟨ys, z⟩ := (f.new p u e h3).not h2; subst z; cases h5
  | i a =>
    obtain ⟨h0, p, ho, h1, h2, h3, h4, h5⟩ := h
    refine ⟨h0, p, ho, h1, f.h p _ h2, ?_, h4, h5.mono f.s⟩
    cases e : S' p with
    | none => rfl
    | some u => obtain ⟨ys, z⟩ := (f.new p u e h3).not h2; subst z; cases h5
  | b => exact RpB.mono h f.s Ex.refl
  | s P => exact h
  | w => exact h
  | x a C dd =>
    obtain ⟨h1, n, ns, ds, fs, h2, h3, h4, h5, h6⟩ := h
    exact ⟨h1, n, ns, ds, fs, h2, h3, f.s _ _ h4, h5, h6.mono f.s⟩
theorem EnvOk.go (e : EnvOk c S0 H0 G S H σ r) (f : Fwd S H S' H') : EnvOk c S0 H0 G S' H' σ r :=
  ⟨e.fwd.trans f, e.len, fun i d h => let ⟨v, h1, h2⟩ := e.slot i d h; ⟨v, h1, h2.mono f⟩, e.sep, let ⟨A, h⟩ := e.sto; ⟨A, h.go f⟩⟩
theorem EnvOk.ex (e : EnvOk c S0 H0 G S H σ r) : Ex S H := e.fwd.sub
theorem kd_set_self (G : List Ow) (i : Nat) : kd (G.set i .v) i = .v := by
  show (G.set i .v).getD i .v = .v
  rw [List.getD_eq_getElem?_getD, List.getElem?_set]
  split
  · split <;> rfl
  · rename_i h; exact absurd rfl h
theorem kd_set_ne {G : List Ow} {i j : Nat} {k : Ow} (h : i ≠ j) : kd (G.set i k) j = kd G j := by
  show (G.set i k).getD j .v = G.getD j .v
  rw [List.getD_eq_getElem?_getD, List.getD_eq_getElem?_getD, List.getElem?_set_ne h]
theorem kd_set_o {G : List Ow} {i : Nat} {k : Ow} (h : i < G.length) : kd (G.set i k) i = k := by
  show (G.set i k).getD i .v = k
  rw [List.getD_eq_getElem?_getD, List.getElem?_set_self h]; rfl
theorem set_some {α : Type} {l : List (Option α)} {i j : Nat} {a : Option α} {b : α} (h : (l.set i a)[j]? = some (some b)) : (i = j ∧ a = some b ∧ i < l.length) ∨ (i ≠ j ∧ l[j]? = some (some b)) := by
  by_cases e : i = j
  · subst e
    rw [List.getElem?_set] at h
    rw [if_pos rfl] at h
    split at h
    · rename_i hl; exact .inl ⟨rfl, Option.some.inj h, hl⟩
    · cases h
  · rw [List.getElem?_set_ne e] at h
    exact .inr ⟨e, h⟩
/-- a slot gets a value -/
theorem EnvOk.setV (e : EnvOk c S0 H0 G S H σ r) {v : V} {d : D} (i : Nat) (h : Rp c.K c.cm S v d) : EnvOk c S0 H0 (G.set i .v) S H (σ.set i (some v)) (r.set i (some d)) := by
  refine ⟨e.fwd, by simp [e.len], fun j b hb => ?_, fun j k b b' p hj hk kj kk sj sk => ?_, let ⟨A, hA⟩ := e.sto; ⟨A, hA.sub (fun a ha => (hA.out a ha).1) (fun _ _ => rfl) Ex.refl (fun j b q hj kj sj => ?_) fun j b kj hj => ?_⟩⟩
  · rcases set_some hb with ⟨rfl, ea, hl⟩ | ⟨ne, hb⟩
    · cases ea
      exact ⟨v, by rw [List.getElem?_set_self (by rw [e.len]; exact hl)], by rw [kd_set_self]; exact h⟩
    · obtain ⟨u, h1, h2⟩ := e.slot j b hb
      exact ⟨u, by rw [List.getElem?_set_ne ne]; exact h1, by rw [kd_set_ne ne]; exact h2⟩
  · have nj : i ≠ j := fun z => by subst z; rw [kd_set_self] at kj; cases kj
    have nk : i ≠ k := fun z => by subst z; rw [kd_set_self] at kk; cases kk
    rw [List.getElem?_set_ne nj] at hj sj
    rw [List.getElem?_set_ne nk] at hk sk
    rw [kd_set_ne nj] at kj
    rw [kd_set_ne nk] at kk
    exact e.sep j k b b' p hj hk kj kk sj sk
  · have nj : i ≠ j := fun z => by subst z; rw [kd_set_self] at kj; cases kj
    rw [List.getElem?_set_ne nj] at hj sj
    rw [kd_set_ne nj] at kj
    exact hA.own j b q hj kj sj
  · have nj : i ≠ j := fun z => by subst z; rw [kd_set_self] at kj; rcases kj with ⟨_, kj⟩ | kj <;> cases kj
    rw [List.getElem?_set_ne nj] at hj
    rw [kd_set_ne nj, List.getElem?_set_ne nj]
    exact ⟨rfl, hj, rfl⟩
/-- a slot gets a new mutable object -/
theorem EnvOk.setO (e : EnvOk c S0 H0 G S H σ r) (f : Fwd S H S' H') {p : Addr} {ho : HO} {d : D} (i : Nat) (hi : i < G.length) (n : H p = none) (ns : S' p = none) (hp : H' p = some ho) (h : RpO c.K c.cm S' ho d) :
    EnvOk c S0 H0 (G.set i .o) S' H' (σ.set i (some (.ref p))) (r.set i (some d)) := by
  have e' := e.go f
  have fresh : ∀ j b, r[j]? = some (some b) → isO (kd G j) → σ[j]? ≠ some (some (.ref p)) := fun j b hb kj sj => by
    obtain ⟨u, h1, h2⟩ := e.slot j b hb
    obtain ⟨q, ho', z1, z2, _⟩ := h2.o_of kj
    rw [sj] at h1; cases h1; cases z1
    rw [n] at z2; cases z2
  refine ⟨e'.fwd, by simp [e.len], fun j b hb => ?_, fun j k b b' q hj hk kj kk sj sk => ?_, let ⟨A, hA⟩ := e.sto; ⟨A, (hA.go f).sub (fun a ha => ((hA.go f).out a ha).1) (fun _ _ => rfl) Ex.refl (fun j b q hj kj sj => ?_) fun j b kj hj => ?_⟩⟩
  · rcases set_some hb with ⟨rfl, ea, hl⟩ | ⟨ne, hb⟩
    · cases ea
      refine ⟨.ref p, by rw [List.getElem?_set_self (by rw [e.len]; exact hl)], ?_⟩
      rw [kd_set_o hi]
      exact ⟨p, ho, rfl, hp, ns, e.fwd.h.nn n, h⟩
    · obtain ⟨u, h1, h2⟩ := e'.slot j b hb
      exact ⟨u, by rw [List.getElem?_set_ne ne]; exact h1, by rw [kd_set_ne ne]; exact h2⟩
  · by_cases nj : i = j
    · by_cases nk : i = k
      · rw [← nj, nk]
      · subst nj
        exfalso
        rcases set_some sj with ⟨_, ea, _⟩ | ⟨ne, _⟩
        · cases ea
          rw [List.getElem?_set_ne nk] at hk sk
          rw [kd_set_ne nk] at kk
          exact fresh k _ hk kk sk
        · exact ne rfl
    · by_cases nk : i = k
      · subst nk
        exfalso
        rcases set_some sk with ⟨_, ea, _⟩ | ⟨ne, _⟩
        · cases ea
          rw [List.getElem?_set_ne nj] at hj sj
          rw [kd_set_ne nj] at kj
          exact fresh j _ hj kj sj
        · exact ne rfl
      · rw [List.getElem?_set_ne nj] at hj sj
        rw [List.getElem?_set_ne nk] at hk sk
        rw [kd_set_ne nj] at kj
        rw [kd_set_ne nk] at kk
        exact e.sep j k b b' q hj hk kj kk sj sk
  · rcases set_some sj with ⟨_, ea, _⟩ | ⟨nj, sj⟩
    · cases ea
      intro ha
      obtain ⟨_, _, xs, h3⟩ := hA.out p ha
      rw [n] at h3; cases h3
    · rw [List.getElem?_set_ne nj] at hj
      rw [kd_set_ne nj] at kj
      exact hA.own j b q hj kj sj
  · have nj : i ≠ j := fun z => by subst z; rw [kd_set_o hi] at kj; rcases kj with ⟨_, kj⟩ | kj <;> cases kj
    rw [List.getElem?_set_ne nj] at hj
    rw [kd_set_ne nj, List.getElem?_set_ne nj]
    exact ⟨rfl, hj, rfl⟩
/-- the own object in slot i: its place -/
theorem EnvOk.ownI (e : EnvOk c S0 H0 G S H σ r) {i : Nat} {d : D} (k : isO (kd G i)) (h : r[i]? = some (some d)) : ∃ p ho, σ[i]? = some (some (.ref p)) ∧ H p = some ho ∧ S p = none ∧ H0 p = none ∧ RpO c.K c.cm S ho d := by
  obtain ⟨v, h1, h2⟩ := e.slot i d h
  obtain ⟨p, ho, rfl, h3⟩ := h2.o_of k
  exact ⟨p, ho, h1, h3⟩
/-- the own object in slot i is changed -/
theorem EnvOk.mutI (e : EnvOk c S0 H0 G S H σ r) {i : Nat} {d d' : D} {p : Addr} {ho' : HO} (k : isO (kd G i)) (h : r[i]? = some (some d)) (hs : σ[i]? = some (some (.ref p))) (h' : RpO c.K c.cm S ho' d') :
    EnvOk c S0 H0 G S (upd H p ho') σ (r.set i (some d')) := by
  obtain ⟨q, ho, s1, s2, s3, s4, s5⟩ := e.ownI k h
  rw [hs] at s1; cases s1
  have hf : Fwd S0 H0 S (upd H p ho') := ⟨e.fwd.s, e.fwd.h.put s4, e.fwd.sub.put s3, e.fwd.new⟩
  refine ⟨hf, by simp [e.len], fun j b hb => ?_, fun j l b b' q hj hk kj kk sj sk => ?_, let ⟨A, hA⟩ := e.sto; ⟨A, hA.sub (fun a ha => (hA.out a ha).1) (fun a ha => upd_ne fun z => hA.own i d p h k hs (z ▸ ha)) Ex.refl (fun j b q hj kj sj => ?_) fun j b kj hj => ?_⟩⟩
  · rcases set_some hb with ⟨rfl, ea, hl⟩ | ⟨ne, hb⟩
    · cases ea
      refine ⟨.ref p, hs, ?_⟩
      cases kk : kd G i with
      | o => exact ⟨p, ho', rfl, upd_same, s3, s4, h'⟩
      | i a =>
        obtain ⟨u, h1, h2⟩ := e.slot i d h
        rw [kk] at h2
        rw [hs] at h1; cases h1
        exact ⟨h2.1, p, ho', rfl, upd_same, s3, s4, h'⟩
      | _ => rw [kk] at k; cases k
    · obtain ⟨u, h1, h2⟩ := e.slot j b hb
      refine ⟨u, h1, ?_⟩
      cases kj : kd G j with
      | v => rw [kj] at h2; exact h2
      | b => rw [kj] at h2; exact h2
      | s P => rw [kj] at h2; exact h2
      | w => rw [kj] at h2; exact h2
      | x a C dd => rw [kj] at h2; exact h2
      | o =>
        rw [kj] at h2
        obtain ⟨q, hq, z1, z2, z3, z4, z5⟩ := h2
        subst z1
        have : q ≠ p := fun z => by subst z; exact ne (e.sep i j d b q h hb k (by rw [kj]; trivial) hs h1)
        exact ⟨q, hq, rfl, by rw [upd_ne this]; exact z2, z3, z4, z5⟩
      | i a =>
        rw [kj] at h2
        obtain ⟨z0, q, hq, z1, z2, z3, z4, z5⟩ := h2
        subst z1
        have : q ≠ p := fun z => by subst z; exact ne (e.sep i j d b q h hb k (by rw [kj]; trivial) hs h1)
        exact ⟨z0, q, hq, rfl, by rw [upd_ne this]; exact z2, z3, z4, z5⟩
  · have un : ∀ m b, (r.set i (some d'))[m]? = some (some b) → ∃ b', r[m]? = some (some b') := fun m b hm => by
      rcases set_some hm with ⟨rfl, _, _⟩ | ⟨_, hm⟩
      · exact ⟨d, h⟩
      · exact ⟨b, hm⟩
    obtain ⟨b1, hj⟩ := un j b hj
    obtain ⟨b2, hk⟩ := un l b' hk
    exact e.sep j l b1 b2 q hj hk kj kk sj sk
  · rcases set_some hj with ⟨nj, _, _⟩ | ⟨_, hj⟩
    · subst nj
      exact hA.own i d q h kj sj
    · exact hA.own j b q hj kj sj
  · rcases set_some hj with ⟨nj, _, _⟩ | ⟨_, hj⟩
    · subst nj
      rcases kj with ⟨_, kj⟩ | kj <;> (rw [kj] at k; cases k)
    · exact ⟨rfl, hj, rfl⟩
theorem isO_o {k : Ow} (h : k = .o) : isO k := by rw [h]; trivial
theorem EnvOk.own (e : EnvOk c S0 H0 G S H σ r) {i : Nat} {d : D} (k : kd G i = .o) (h : r[i]? = some (some d)) : ∃ p ho, σ[i]? = some (some (.ref p)) ∧ H p = some ho ∧ S p = none ∧ H0 p = none ∧ RpO c.K c.cm S ho d := e.ownI (isO_o k) h
theorem EnvOk.mut (e : EnvOk c S0 H0 G S H σ r) {i : Nat} {d d' : D} {p : Addr} {ho' : HO} (k : kd G i = .o) (h : r[i]? = some (some d)) (hs : σ[i]? = some (some (.ref p))) (h' : RpO c.K c.cm S ho' d') :
    EnvOk c S0 H0 G S (upd H p ho') σ (r.set i (some d')) := e.mutI (isO_o k) h hs h'
theorem StoOk.un {A : List Addr} (hA : StoOk c.K c.cm H0 G S H σ r A) (i : Nat) (hk : kd G i = .o ∨ kd G i = .v) (hS : ∀ a ∈ A, S' a = none) (eS : Ex S S') : StoOk c.K c.cm H0 (G.set i .v) S' H σ r A :=
  hA.sub hS (fun _ _ => rfl) eS (fun j b q hj kj sj => by
    have nj : i ≠ j := fun z => by subst z; rw [kd_set_self] at kj; cases kj
    rw [kd_set_ne nj] at kj
    exact hA.own j b q hj kj sj) fun j b kj hj => by
    have nj : i ≠ j := fun z => by subst z; rw [kd_set_self] at kj; rcases kj with ⟨_, kj⟩ | kj <;> cases kj
    rw [kd_set_ne nj]
    exact ⟨rfl, hj, rfl⟩
theorem EnvOk.sto_un (e : EnvOk c S0 H0 G S H σ r) (i : Nat) (hk : kd G i = .o ∨ kd G i = .v) : ∃ A, StoOk c.K c.cm H0 (G.set i .v) S H σ r A :=
  let ⟨A, hA⟩ := e.sto
  ⟨A, hA.un i hk (fun a ha => (hA.out a ha).1) Ex.refl⟩
/-- the own object in slot i becomes a value, as ho2 -/
theorem EnvOk.pubG (e : EnvOk c S0 H0 G S H σ r) (i : Nat) (k : kd G i = .o) {d : D} (h : r[i]? = some (some d)) {p : Addr} {ho ho2 : HO} (s1 : σ[i]? = some (some (.ref p))) (s2 : H p = some ho) (s3 : S p = none) (s4 : H0 p = none) (hrp : Rp c.K c.cm (upd S p ho2) (.ref p) d) :
    EnvOk c S0 H0 (G.set i .v) (upd S p ho2) (upd H p ho2) σ r := by
  have hk : kd G i = .o ∨ kd G i = .v := .inl k
  have ex : Ex S (upd S p ho2) := Ex.new s3
  refine ⟨⟨e.fwd.s.trans ex, e.fwd.h.put s4, e.fwd.sub.both, fun a u ha m => ?_⟩, e.len, fun j b hb => ?_, fun j l b b' q hj hk kj kk sj sk => ?_, let ⟨A, hA⟩ := e.sto; ⟨A, ?_⟩⟩
  · by_cases hh : a = p
    · subst hh; exact .inl s4
    · rw [upd_ne hh] at ha; exact e.fwd.new a u ha m
  · by_cases ne : i = j
    · subst ne
      rw [h] at hb; cases hb
      refine ⟨.ref p, s1, ?_⟩
      rw [kd_set_self]
      exact hrp
    · obtain ⟨u, h1, h2⟩ := e.slot j b hb
      refine ⟨u, h1, ?_⟩
      rw [kd_set_ne ne]
      cases kj : kd G j with
      | v => rw [kj] at h2; exact Rp.mono ex h2
      | b => rw [kj] at h2; exact RpB.mono h2 ex Ex.refl
      | s P => rw [kj] at h2; exact h2
      | w => rw [kj] at h2; exact h2
      | x a C dd =>
        rw [kj] at h2
        obtain ⟨y1, n, ns, ds, fs, y2, y3, y4, y5, y6⟩ := h2
        exact ⟨y1, n, ns, ds, fs, y2, y3, ex _ _ y4, y5, y6.mono ex⟩
      | o =>
        rw [kj] at h2
        obtain ⟨q, hq, z1, z2, z3, z4, z5⟩ := h2
        subst z1
        have : q ≠ p := fun z => by subst z; exact ne (e.sep i j d b q h hb (isO_o k) (isO_o kj) s1 h1)
        exact ⟨q, hq, rfl, by rw [upd_ne this]; exact z2, by rw [upd_ne this]; exact z3, z4, z5.mono ex⟩
      | i a =>
        rw [kj] at h2
        obtain ⟨z0, q, hq, z1, z2, z3, z4, z5⟩ := h2
        subst z1
        have : q ≠ p := fun z => by subst z; exact ne (e.sep i j d b q h hb (isO_o k) (by rw [kj]; trivial) s1 h1)
        exact ⟨z0, q, hq, rfl, by rw [upd_ne this]; exact z2, by rw [upd_ne this]; exact z3, z4, z5.mono ex⟩
  · have nj : i ≠ j := fun z => by subst z; rw [kd_set_self] at kj; cases kj
    have nl : i ≠ l := fun z => by subst z; rw [kd_set_self] at kk; cases kk
    rw [kd_set_ne nj] at kj
    rw [kd_set_ne nl] at kk
    exact e.sep j l b b' q hj hk kj kk sj sk
  · have np : ∀ a ∈ A, a ≠ p := fun a ha z => hA.own i d p h (isO_o k) s1 (z ▸ ha)
    refine hA.sub (fun a ha => by rw [upd_ne (np a ha)]; exact (hA.out a ha).1) (fun a ha => upd_ne (np a ha)) ex (fun j b q hj kj sj => ?_) fun j b kj hj => ?_
    · have nj : i ≠ j := fun z => by subst z; rw [kd_set_self] at kj; cases kj
      rw [kd_set_ne nj] at kj
      exact hA.own j b q hj kj sj
    · have nj : i ≠ j := fun z => by subst z; rw [kd_set_self] at kj; rcases kj with ⟨_, kj⟩ | kj <;> cases kj
      rw [kd_set_ne nj]
      exact ⟨rfl, hj, rfl⟩
theorem upd_eq {H : Hp} {p : Addr} {o : HO} (h : H p = some o) : upd H p o = H := by
  funext a
  by_cases e : a = p
  · rw [e, upd_same, h]
  · rw [upd_ne e]
/-- an own dict becomes a value: it is locked -/
theorem EnvOk.pubD (e : EnvOk c S0 H0 G S H σ r) (i : Nat) (k : kd G i = .o) {d : D} (h : r[i]? = some (some d)) (hd : isDct d = true) : ∃ p u, H p = some u ∧ Mut (some u) ∧ ∀ w, ∃ S', EnvOk c S0 H0 (G.set i .v) S' (upd H p (.frz w u)) σ r := by
  obtain ⟨p, ho, s1, s2, s3, s4, s5⟩ := e.own k h
  exact ⟨p, ho, s2, s5.mut, fun w => ⟨_, e.pubG i k h s1 s2 s3 s4 ((s5.mono (Ex.new s3)).pubD hd upd_same).1⟩⟩
/-- the own object in slot i becomes a value -/
theorem EnvOk.pub (e : EnvOk c S0 H0 G S H σ r) (i : Nat) (hk : kd G i = .o ∨ kd G i = .v) (nd : ∀ d, r[i]? = some (some d) → isDct d = false) : ∃ S', EnvOk c S0 H0 (G.set i .v) S' H σ r := by
  by_cases k : kd G i = .o
  · cases h : r[i]? with
    | none =>
      refine ⟨S, e.fwd, e.len, fun j b hb => ?_, fun j l b b' q hj hk kj kk sj sk => ?_, e.sto_un i hk⟩
      · have ne : i ≠ j := fun z => by subst z; rw [h] at hb; cases hb
        obtain ⟨u, h1, h2⟩ := e.slot j b hb
        exact ⟨u, h1, by rw [kd_set_ne ne]; exact h2⟩
      · have nj : i ≠ j := fun z => by subst z; rw [h] at hj; cases hj
        have nl : i ≠ l := fun z => by subst z; rw [h] at hk; cases hk
        rw [kd_set_ne nj] at kj
        rw [kd_set_ne nl] at kk
        exact e.sep j l b b' q hj hk kj kk sj sk
    | some od =>
      cases od with
      | none =>
        refine ⟨S, e.fwd, e.len, fun j b hb => ?_, fun j l b b' q hj hk kj kk sj sk => ?_, e.sto_un i hk⟩
        · have ne : i ≠ j := fun z => by subst z; rw [h] at hb; cases hb
          obtain ⟨u, h1, h2⟩ := e.slot j b hb
          exact ⟨u, h1, by rw [kd_set_ne ne]; exact h2⟩
        · have nj : i ≠ j := fun z => by subst z; rw [h] at hj; cases hj
          have nl : i ≠ l := fun z => by subst z; rw [h] at hk; cases hk
          rw [kd_set_ne nj] at kj
          rw [kd_set_ne nl] at kk
          exact e.sep j l b b' q hj hk kj kk sj sk
      | some d =>
        obtain ⟨p, ho, s1, s2, s3, s4, s5⟩ := e.own k h
        have := e.pubG i k h s1 s2 s3 s4 (ho2 := ho) ((s5.mono (Ex.new s3)).pub (nd d h) upd_same)
        rw [upd_eq s2] at this
        exact ⟨_, this⟩
  · have k' : kd G i = .v := hk.resolve_left k
    have all : ∀ j, kd (G.set i .v) j = kd G j := fun j => by
      by_cases ne : i = j
      · subst ne; rw [kd_set_self, k']
      · exact kd_set_ne ne
    exact ⟨S, e.fwd, e.len, fun j b hb => by rw [all]; exact e.slot j b hb, fun j l b b' q hj hk kj kk sj sk => e.sep j l b b' q hj hk ((all j) ▸ kj) ((all l) ▸ kk) sj sk, e.sto_un i hk⟩
end
end Dx
end S_DxA
section S_DxB
set_option Elab.async false
set_option linter.all false
set_option maxRecDepth 100000
set_option maxHeartbeats 2000000
namespace Dx
open PySem L2
/-- what is wanted behind a result, from (S, H) on -/
def PostG (c : Cf) (σ : St) (S H : Hp) {α : Type} (r : Res α) (k : α → Hp → Hp → Prop) : Prop :=
  match r with
  | .ok a => ∀ S' H', Fwd S H S' H' → k a S' H'
  | .err n ns vs => ∀ C dd S' H' fs, c.cm n = some C → Fwd S H S' H' → S' dd = some (.xd fs) → ns = fs.map (·.1) → RpA c.K c.cm S' (fs.map (·.2)) vs → c.W (.ref C) (some dd) σ H'
  | .bad => False
section
variable {c : Cf} {σ : St} {S H S1 H1 : Hp} {α β : Type} {r : Res α} {k k' : α → Hp → Hp → Prop}
theorem PostG.mono (h : PostG c σ S H r k) (f : Fwd S H S1 H1) : PostG c σ S1 H1 r k := by
  cases r with
  | ok a => exact fun S' H' g => h S' H' (f.trans g)
  | err n ns vs => exact fun C dd S' H' fs h1 g h2 h3 h4 => h C dd S' H' fs h1 (f.trans g) h2 h3 h4
  | bad => exact h
theorem PostG.imp (h : PostG c σ S H r k) (hk : ∀ a S' H', Fwd S H S' H' → k a S' H' → k' a S' H') : PostG c σ S H r k' := by
  cases r with
  | ok a => exact fun S' H' g => hk a S' H' g (h S' H' g)
  | err n ns vs => exact h
  | bad => exact h
theorem PostG.unbind {g : α → Res β} {k : β → Hp → Hp → Prop} (h : PostG c σ S H (r.bind g) k) : PostG c σ S H r fun a S' H' => PostG c σ S' H' (g a) k := by
  cases r with
  | ok a => exact fun S' H' f => PostG.mono (show PostG c σ S H (g a) k from h) f
  | err n ns vs => exact h
  | bad => exact h
end
/-- x where p holds; nothing is reckoned for it -/
noncomputable def guard {α : Type} (p : Prop) (x : Res α) : Res α := @ite _ p (Classical.propDecidable p) x .bad
theorem guard_pos {α : Type} {p : Prop} {x : Res α} (h : p) : guard p x = x := by unfold guard; exact if_pos h
theorem PostG.gd {c : Cf} {σ : St} {S H : Hp} {α : Type} {p : Prop} {x : Res α} {k : α → Hp → Hp → Prop} (h : PostG c σ S H (guard p x) k) : p ∧ PostG c σ S H x k := by
  by_cases hp : p
  · rw [guard_pos hp] at h; exact ⟨hp, h⟩
  · unfold guard at h; rw [if_neg hp] at h; exact h.elim
/-- a mode: what the heap ahead, the heaps behind, the machine's result and the data have in common -/
abbrev Md (β α : Type) := Hp → Hp → Hp → β → α → Prop
class Anti {β α : Type} (R : Md β α) : Prop where
  anti : ∀ {H H2 S' H' : Hp} {b : β} {a : α}, Ex H H2 → R H2 S' H' b a → R H S' H' b a
def mV (c : Cf) : Md V D := fun _ S' _ v d => Rp c.K c.cm S' v d
def mB (c : Cf) : Md V D := fun _ S' H' v d => RpB c.K c.cm S' H' v d
def mO (c : Cf) : Md V D := fun H S' H' v d => ∃ p ho, v = .ref p ∧ H p = none ∧ S' p = none ∧ H' p = some ho ∧ RpO c.K c.cm S' ho d
def mA (c : Cf) : Md (List V) (List D) := fun _ S' _ vs ds => RpA c.K c.cm S' vs ds
def mE (α : Type) : Md α α := fun _ _ _ b a => b = a
instance {c : Cf} : Anti (mV c) := ⟨fun _ h => h⟩
instance {c : Cf} : Anti (mB c) := ⟨fun _ h => h⟩
instance {c : Cf} : Anti (mA c) := ⟨fun _ h => h⟩
instance {α : Type} : Anti (mE α) := ⟨fun _ h => h⟩
instance {c : Cf} : Anti (mO c) := ⟨fun e ⟨p, ho, h1, h2, h3⟩ => ⟨p, ho, h1, e.nn h2, h3⟩⟩
/-- the reading of a piece whose data is f -/
def rd (c : Cf) (G : List Ow) {α β : Type} (f : Rho → Res α) (R : Md β α) : St → Hp → (β → Hp → Prop) → Prop := fun σ H Q =>
  ∃ S0 H0 S r, EnvOk c S0 H0 G S H σ r ∧ PostG c σ S H (f r) fun a S' H' => ∀ b, R H S' H' b a → Q b H'
abbrev tV (c : Cf) (G : List Ow) (f : Rho → Res D) : TE := rd c G f (mV c)
abbrev tR (c : Cf) (G : List Ow) (f : Rho → Res D) : TE := rd c G f (mB c)
abbrev tO (c : Cf) (G : List Ow) (f : Rho → Res D) : TE := rd c G f (mO c)
abbrev tT (c : Cf) (G : List Ow) (f : Rho → Res Bool) : TT := rd c G f (mE Bool)
abbrev tAs (c : Cf) (G : List Ow) (f : Rho → Res (List D)) : TA := rd c G f (mA c)
theorem pe_imp {X : Cx} {e : Expr} {t t' : TE} (h : PE X e t) (k : ∀ σ H Q, t' σ H Q → t σ H Q) : PE X e t' := ⟨fun pins s σ H Q I q => h.run pins s σ H Q I (k σ H Q q)⟩
theorem pt_imp {X : Cx} {e : Expr} {t t' : TT} (h : PT X e t) (k : ∀ σ H Q, t' σ H Q → t σ H Q) : PT X e t' := ⟨fun pins s σ H Q I q => h.run pins s σ H Q I (k σ H Q q)⟩
theorem pa_imp {X : Cx} {es : List Expr} {t t' : TA} (h : PA X es t) (k : ∀ σ H Q, t' σ H Q → t σ H Q) : PA X es t' := ⟨fun p pins s σ H Q I q => h.run p pins s σ H Q I (k σ H Q q)⟩
theorem ps_imp {X : Cx} {st : Stmt} {t t' : TS} (h : PS X st t) (k : ∀ E σ H, t' E σ H → t E σ H) : PS X st t' := ⟨fun pins s σ H E I q => h.run pins s σ H E I (k E σ H q)⟩
theorem pss_imp {X : Cx} {st : List Stmt} {t t' : TS} (h : PSs X st t) (k : ∀ E σ H, t' E σ H → t E σ H) : PSs X st t' := ⟨fun pins s σ H E I q => h.run pins s σ H E I (k E σ H q)⟩
section
variable {c : Cf} {G : List Ow} {σ : St} {S0 H0 S H : Hp} {r : Rho} {α β γ : Type}
/-- one piece, then what follows -/
theorem rd_seq {f : Rho → Res α} {R : Md β α} (e : EnvOk c S0 H0 G S H σ r) {g : α → Res γ} {k : γ → Hp → Hp → Prop} (p : PostG c σ S H ((f r).bind g) k) {Q : β → Hp → Prop}
    (h : ∀ a b S' H', Fwd S H S' H' → EnvOk c S0 H0 G S' H' σ r → R H S' H' b a → PostG c σ S' H' (g a) k → Q b H') : rd c G f R σ H Q :=
  ⟨S0, H0, S, r, e, p.unbind.imp fun a S' H' fw hk b hb => h a b S' H' fw (e.go fw) hb hk⟩
theorem PostG.anti {R : Md β α} [Anti R] {H2 : Hp} {x : Res α} {Q : β → Hp → Prop} (e : Ex H H2) {S2 : Hp} (p : PostG c σ S2 H2 x fun a S' H' => ∀ b, R H S' H' b a → Q b H') :
    PostG c σ S2 H2 x fun a S' H' => ∀ b, R H2 S' H' b a → Q b H' := p.imp fun _ _ _ _ hk b hb => hk b (Anti.anti e hb)
/-- the wish behind a value that is there -/
theorem PostG.here {R : Md β α} {a : α} {b : β} {Q : β → Hp → Prop} (p : PostG c σ S H (.ok a) fun a S' H' => ∀ b, R H S' H' b a → Q b H') (e : Ex S H) (h : R H S H b a) : Q b H := p S H (Fwd.refl e) b h
theorem PostG.go {a : α} {k : α → Hp → Hp → Prop} (p : PostG c σ S H (.ok a) k) (e : Ex S H) : k a S H := p S H (Fwd.refl e)
/-- .. behind a new object that stays; that is kept own -/
theorem PostG.laid {d : D} {o : HO} {q : Addr} {Q : VK} (p : PostG c σ S H (.ok d) fun a S' H' => ∀ b, mV c H S' H' b a → Q b H') (e : Ex S H) (n : H q = none) (h : Rp c.K c.cm (upd S q o) (.ref q) d) : Q (.ref q) (upd H q o) :=
  p _ _ (Fwd.both e n) _ h
theorem PostG.kept {d : D} {o : HO} {q : Addr} {Q : VK} (p : PostG c σ S H (.ok d) fun a S' H' => ∀ b, mO c H S' H' b a → Q b H') (e : Ex S H) (n : H q = none) (h : RpO c.K c.cm S o d) : Q (.ref q) (upd H q o) :=
  p _ _ (Fwd.heap e n) _ ⟨q, o, rfl, n, e.nn n, upd_same, h⟩
end
/-- .. or so as soon as a told object is locked -/
def Lo (Q : Hp → Prop) (H : Hp) : Prop := Q H ∨ ∃ p u, H p = some u ∧ Mut (some u) ∧ ∀ w, Q (upd H p (.frz w u))
theorem Fwd.pubF {S H S' H' : Hp} {p : Addr} {o : HO} (f : Fwd S H S' H') (n : H p = none) (ns : S' p = none) : Fwd S H (upd S' p o) (upd H' p o) :=
  ⟨f.s.trans (Ex.new ns), f.h.put n, f.sub.both, fun a u ha m => by
    by_cases hh : a = p
    · subst hh; exact .inl n
    · rw [upd_ne hh] at ha; exact f.new a u ha m⟩
section
variable {X : Cx}
theorem pe_lock {e : Expr} {t t2 : TE} (h : PE X e t) (k : ∀ σ H Q, t2 σ H Q → t σ H fun v H' => Lo (Q v) H') : PE X e t2 := ⟨fun pins s σ H Q I q => thn (h.run pins s σ H _ I (k _ _ _ q)) fun u s' ⟨v, H', I', r, z⟩ => by
  rcases z with z | ⟨p, ho, h1, h2, z⟩
  · exact ⟨v, H', I', r, z⟩
  · obtain ⟨od, I2⟩ := I'.lock h1 h2
    exact ⟨v, _, I2, r, z od⟩⟩
theorem pss_lock {st : List Stmt} {t t2 : TS} (h : PSs X st t) (k : ∀ E σ H, t2 E σ H → Lo (fun H => t E σ H) H) : PSs X st t2 := ⟨fun pins s σ H E I q => by
  rcases k _ _ _ q with z | ⟨p, ho, h1, h2, z⟩
  · exact h.run pins s σ H E I z
  · obtain ⟨od, I2⟩ := I.lock h1 h2
    exact h.run pins s σ _ E I2 (z od)⟩
end
section
variable {X : Cx} {c : Cf} {G : List Ow} {f f1 f2 : Rho → Res D} {a b e : Expr} {pos : Pos}
theorem de_pub (h : PE X e (tO c G f)) : PE X e (tV c G f) := pe_lock h fun σ H Q ⟨S0, H0, S, r, ok, p⟩ => ⟨S0, H0, S, r, ok, by
  revert p
  cases f r with
  | ok d =>
    intro p S' H' fw b hb
    obtain ⟨q, ho, rfl, h1, h2, h3, h4⟩ := hb
    cases hd : isDct d with
    | false =>
      have fw' := fw.pub h1 h2 h3
      exact .inl (p _ H' fw' _ ((h4.mono (Ex.new h2)).pub hd upd_same))
    | true => exact .inr ⟨q, ho, h3, h4.mut, fun w => p _ _ (fw.pubF h1 h2) _ ((h4.mono (Ex.new h2)).pubD hd upd_same).1⟩
  | err n ns vs => exact id
  | bad => exact id⟩
theorem db_of (h : PE X e (tV c G f)) : PE X e (tR c G f) := pe_imp h fun σ H Q ⟨S0, H0, S, r, ok, p⟩ => ⟨S0, H0, S, r, ok, p.imp fun _ _ _ _ hk b hb => hk b (.inl hb)⟩
theorem db_own (h : PE X e (tO c G f)) : PE X e (tR c G f) := db_of (de_pub h)
def dVar (i : Nat) : Rho → Res D := fun r => match r[i]? with
  | some (some d) => .ok d
  | _ => .bad
def dC (d : D) : Rho → Res D := fun _ => .ok d
theorem of_dVar {σ : St} {S H : Hp} {i : Nat} {r : Rho} {k : D → Hp → Hp → Prop} (p : PostG c σ S H (dVar i r) k) : ∃ d, r[i]? = some (some d) ∧ PostG c σ S H (.ok d) k := by
  unfold dVar at p
  split at p
  · exact ⟨_, by assumption, p⟩
  · exact p.elim
theorem de_var (i : Nat) {x : Str} (h : PE X (.Name x pos) (tVar i)) (k : kd G i = .v) : PE X (.Name x pos) (tV c G (dVar i)) := pe_imp h fun σ H Q ⟨S0, H0, S, r, ok, p⟩ => by
  obtain ⟨d, hd, p⟩ := of_dVar p
  obtain ⟨v, h1, h2⟩ := ok.slot i d hd
  rw [k] at h2
  exact ⟨v, h1, p.here ok.ex h2⟩
theorem db_var (i : Nat) {x : Str} (h : PE X (.Name x pos) (tVar i)) (k : kd G i = .v ∨ isO (kd G i) ∨ kd G i = .b) : PE X (.Name x pos) (tR c G (dVar i)) := pe_imp h fun σ H Q ⟨S0, H0, S, r, ok, p⟩ => by
  obtain ⟨d, hd, p⟩ := of_dVar p
  obtain ⟨v, h1, h2⟩ := ok.slot i d hd
  refine ⟨v, h1, p.here ok.ex ?_⟩
  rcases k with k | k | k
  · rw [k] at h2; exact .inl h2
  · obtain ⟨q, ho, z1, z2, z3, z4, z5⟩ := h2.o_of k
    exact .inr ⟨q, ho, z1, z2, z5⟩
  · rw [k] at h2
    exact RpB.mono h2 Ex.refl ok.fwd.h
theorem de_c {v : V} {d : D} (h : PE X e (tC v)) (hd : ∀ S, Rp c.K c.cm S v d) : PE X e (tV c G (dC d)) := pe_imp h fun σ H Q ⟨S0, H0, S, r, ok, p⟩ => p.here ok.ex (hd S)
theorem de_int {i : Int} {j : Nat} : PE X (.Constant (.int i) j pos) (tV c G (dC (.int i))) := de_c pe_int fun _ => .int i
theorem de_bl {b : Bool} {j : Nat} : PE X (.Constant (.bool b) j pos) (tV c G (dC (.bl b))) := de_c pe_bl fun _ => .bl b
theorem de_non {j : Nat} : PE X (.Constant .none j pos) (tV c G (dC .non)) := de_c pe_non fun _ => .non
theorem de_str {x : Str} {j : Nat} : PE X (.Constant (.str x) j pos) (tV c G (dC (.str x))) := de_c pe_str fun _ => .str x
def dOp (g : D → D → Res D) (f1 f2 : Rho → Res D) : Rho → Res D := fun r => (f1 r).bind fun x => (f2 r).bind fun y => g x y
def OpS (c : Cf) (R : Md V D) (r2 : R2) (g : D → D → Res D) : Prop := ∀ (σ : St) (S H : Hp) (x y : V) (d e : D) (Q : VK), Ex S H → RpB c.K c.cm S H x d → RpB c.K c.cm S H y e →
  PostG c σ S H (g d e) (fun a S' H' => ∀ b, R H S' H' b a → Q b H') → r2 x y H Q
theorem op_rd {R : Md V D} [Anti R] {r2 : R2} {g : D → D → Res D} (hs : OpS c R r2 g) : ∀ σ H Q, rd c G (dOp g f1 f2) R σ H Q → tOp r2 (tR c G f1) (tR c G f2) σ H Q := fun σ H Q ⟨S0, H0, S, r, ok, p⟩ =>
  rd_seq ok p fun x v S1 H1 w1 o1 m1 p1 => rd_seq o1 p1 fun y u S2 H2 w2 o2 m2 p2 => hs σ S2 H2 v u x y Q o2.ex (RpB.mono m1 w2.s w2.h) m2 (p2.anti (w1.h.trans w2.h))
theorem de_op {R : Md V D} [Anti R] {op : Operator} {r2 : R2} {g : D → D → Res D} (ho : OpR X (binaryOp op) r2) (hs : OpS c R r2 g) (ha : PE X a (tR c G f1)) (hb : PE X b (tR c G f2)) : PE X (.BinOp a op b pos) (rd c G (dOp g f1 f2) R) :=
  pe_imp (pe_op ho ha hb) (op_rd hs)
theorem de_cmp {R : Md V D} [Anti R] {op : CmpOp} {r2 : R2} {g : D → D → Res D} (ho : OpR X (compareOp op) r2) (hs : OpS c R r2 g) (ha : PE X a (tR c G f1)) (hb : PE X b (tR c G f2)) (hm : behindInMarks op b = false) :
    PE X (.Compare a [op] [b] pos) (rd c G (dOp g f1 f2) R) := pe_imp (pe_cmpR ho ha hb hm) (op_rd hs)
/-- a truth value as a test -/
def asB : D → Res Bool
  | .bl b => .ok b
  | _ => .bad
def dT (f : Rho → Res D) : Rho → Res Bool := fun r => (f r).bind asB
theorem of_asB {σ : St} {S H : Hp} {d : D} {k : Bool → Hp → Hp → Prop} (p : PostG c σ S H (asB d) k) : ∃ b, d = .bl b ∧ PostG c σ S H (.ok b) k := by
  cases d with
  | bl b => exact ⟨b, rfl, p⟩
  | _ => exact p.elim
theorem dt_cmp {op : CmpOp} {r2 : R2} {g : D → D → Res D} (ho : OpR X (compareOp op) r2) (hs : OpS c (mV c) r2 g) (ha : PE X a (tR c G f1)) (hb : PE X b (tR c G f2)) (hm : behindInMarks op b = false) :
    PT X (.Compare a [op] [b] pos) (tT c G (dT (dOp g f1 f2))) := pt_imp (pt_cmpR ho ha hb hm) fun σ H Q ⟨S0, H0, S, r, ok, p⟩ => by
  refine op_rd (G := G) (f1 := f1) (f2 := f2) hs σ H _ (rd_seq ok p fun d v S1 H1 w1 o1 m1 p1 => ?_)
  obtain ⟨b, rfl, p1⟩ := of_asB p1
  cases m1
  exact ⟨b, rfl, p1.go o1.ex _ rfl⟩
/-- an expression whose value is True or False, as a test -/
theorem dt_val (h : PE X e (tV c G f)) (he : ∀ whole, isTrue e X.env whole = (do let v ← whole; standAt e.pos; holding [v] (truthy v)) := by intro _; rfl) : PT X e (tT c G (dT f)) :=
  pt_imp (pt_val h he) fun σ H Q ⟨S0, H0, S, r, ok, p⟩ => rd_seq ok p fun d v S1 H1 w1 o1 m1 p1 => by
    obtain ⟨b, rfl, p1⟩ := of_asB p1
    cases m1
    exact ⟨b, rfl, p1.go o1.ex _ rfl⟩
variable {t1 t2 : Rho → Res Bool} {rest : List Expr}
def dAnd (t u : Rho → Res Bool) : Rho → Res Bool := fun r => (t r).bind fun b => if b = true then u r else .ok false
def dOr (t u : Rho → Res Bool) : Rho → Res Bool := fun r => (t r).bind fun b => if b = true then .ok true else u r
def dNot (t : Rho → Res Bool) : Rho → Res Bool := fun r => (t r).bind fun b => .ok (!b)
def dIf {α : Type} (t : Rho → Res Bool) (f g : Rho → Res α) : Rho → Res α := fun r => (t r).bind fun b => if b = true then f r else g r
theorem pw_imp {t t' : TT} (h : PW X e t) (k : ∀ σ H Q, t' σ H Q → t σ H Q) : PW X e t' := ⟨fun w pins s σ H Q I q => h.run w pins s σ H Q I (k σ H Q q)⟩
theorem dw_and1 (ha : PT X a (tT c G t1)) : PW X (.BoolOp .And [a] pos) (tT c G t1) := pw_and1 ha
theorem dw_or1 (ha : PT X a (tT c G t1)) : PW X (.BoolOp .Or [a] pos) (tT c G t1) := pw_or1 ha
theorem dw_and (ha : PT X a (tT c G t1)) (hb : PW X (.BoolOp .And (b :: rest) pos) (tT c G t2)) : PW X (.BoolOp .And (a :: b :: rest) pos) (tT c G (dAnd t1 t2)) := pw_imp (pw_and ha hb) fun σ H Q ⟨S0, H0, S, r, ok, p⟩ =>
  rd_seq ok p fun x v S1 H1 w1 o1 m1 p1 => by
    rw [show v = x from m1]
    cases x with
    | true => exact ⟨S0, H0, S1, r, o1, p1⟩
    | false => exact p1.go o1.ex _ rfl
theorem dw_or (ha : PT X a (tT c G t1)) (hb : PW X (.BoolOp .Or (b :: rest) pos) (tT c G t2)) : PW X (.BoolOp .Or (a :: b :: rest) pos) (tT c G (dOr t1 t2)) := pw_imp (pw_or ha hb) fun σ H Q ⟨S0, H0, S, r, ok, p⟩ =>
  rd_seq ok p fun x v S1 H1 w1 o1 m1 p1 => by
    rw [show v = x from m1]
    cases x with
    | true => exact p1.go o1.ex _ rfl
    | false => exact ⟨S0, H0, S1, r, o1, p1⟩
theorem dt_not (ha : PT X a (tT c G t1)) : PT X (.UnaryOp .Not a pos) (tT c G (dNot t1)) := pt_imp (pt_not ha) fun σ H Q ⟨S0, H0, S, r, ok, p⟩ =>
  rd_seq ok p fun x v S1 H1 w1 o1 m1 p1 => by
    rw [show v = x from m1]
    exact p1.go o1.ex _ rfl
theorem de_ifx {R : Md V D} [Anti R] {cnd : Expr} (hc : PT X cnd (tT c G t1)) (ha : PE X a (rd c G f1 R)) (hb : PE X b (rd c G f2 R)) : PE X (.IfExp cnd a b pos) (rd c G (dIf t1 f1 f2) R) := pe_imp (pe_ifExp hc ha hb) fun σ H Q ⟨S0, H0, S, r, ok, p⟩ =>
  rd_seq ok p fun x v S1 H1 w1 o1 m1 p1 => by
    rw [show v = x from m1]
    cases x with
    | true => exact ⟨S0, H0, S1, r, o1, p1.anti w1.h⟩
    | false => exact ⟨S0, H0, S1, r, o1, p1.anti w1.h⟩
/-- and, or, not as values: all True or False -/
def dAndV (f g : Rho → Res D) : Rho → Res D := fun r => (f r).bind fun x => (asB x).bind fun b => if b = true then g r else .ok (.bl false)
def dOrV (f g : Rho → Res D) : Rho → Res D := fun r => (f r).bind fun x => (asB x).bind fun b => if b = true then .ok (.bl true) else g r
def dNotV (f : Rho → Res D) : Rho → Res D := fun r => (f r).bind fun x => (asB x).bind fun b => .ok (.bl (!b))
end
end Dx
end S_DxB
section S_DxC
set_option Elab.async false
set_option linter.all false
set_option maxRecDepth 100000
set_option maxHeartbeats 2000000
namespace Dx
open PySem L2
mutual
def toPy : D → Option PyData
  | .non => some .none
  | .bl b => some (.bool b)
  | .int i => some (.int i)
  | .str s => some (.str s)
  | .lst ds => (toPyL ds).map .list
  | .fz ds => (toPyL ds).map .list
  | .tup ds => (toPyL ds).map .tuple
  | .kt ds => (toPyL ds).map .tuple
  | .dk _ _ => none
  | .dt _ _ => none
  | .obj _ _ _ => none
  | .own _ => none
  | .st _ _ => none
def toPyL : List D → Option (List PyData)
  | [] => some []
  | d :: ds => match toPy d, toPyL ds with
    | some p, some ps => some (p :: ps)
    | _, _ => none
end
section
variable {K : PySem.W.Frag} {cm : CM} {S H : Hp}
mutual
theorem Rp.dp (e : Ex S H) : ∀ {v : V} {d : D} {p : PyData}, Rp K cm S v d → toPy d = some p → Dp K H v p
  | _, .non, _, h, q => by cases h; cases q; exact .non
  | _, .bl _, _, h, q => by cases h; cases q; exact .bl _
  | _, .int _, _, h, q => by cases h; cases q; exact .int _
  | _, .str _, _, h, q => by cases h; cases q; exact .str _
  | _, .lst ds, _, h, q => by
    cases h with | lst a r =>
    rw [toPy] at q
    obtain ⟨ps, h1, rfl⟩ := Option.map_eq_some_iff.mp q
    exact .lst (.inl (.inl (e _ _ a))) (RpA.dp e r h1)
  | _, .fz ds, _, h, q => by
    cases h with | fz a r =>
    rw [toPy] at q
    obtain ⟨ps, h1, rfl⟩ := Option.map_eq_some_iff.mp q
    exact .lst (e.l a) (RpA.dp e r h1)
  | _, .tup ds, _, h, q => by
    cases h with | tup a r =>
    rw [toPy] at q
    obtain ⟨ps, h1, rfl⟩ := Option.map_eq_some_iff.mp q
    exact .tup (.inl (.inl (e _ _ a))) (RpA.dp e r h1)
  | _, .kt ds, _, h, q => by
    cases h with | kt a r =>
    rw [toPy] at q
    obtain ⟨ps, h1, rfl⟩ := Option.map_eq_some_iff.mp q
    exact .tup (e.t a) (RpA.dp e r h1)
  | _, .dk _ _, _, h, q => by cases q
  | _, .dt _ _, _, h, q => by cases q
  | _, .obj _ _ _, _, h, q => by cases q
theorem RpA.dp (e : Ex S H) : ∀ {vs : List V} {ds : List D} {ps : List PyData}, RpA K cm S vs ds → toPyL ds = some ps → DpAll K H vs ps
  | _, [], _, h, q => by cases h; cases q; exact .nil
  | _, d :: ds, _, h, q => by
    cases h with | cons a r =>
    rw [toPyL] at q
    cases h1 : toPy d with
    | none => rw [h1] at q; cases q
    | some p =>
      cases h2 : toPyL ds with
      | none => rw [h1, h2] at q; cases q
      | some ps =>
        rw [h1, h2] at q
        cases q
        exact .cons (Rp.dp e a h1) (RpA.dp e r h2)
end
theorem RpB.dp {v : V} {d : D} {p : PyData} (e : Ex S H) (h : RpB K cm S H v d) (q : toPy d = some p) : Dp K H v p := by
  rcases h with h | ⟨a, ho, rfl, h2, h3⟩
  · exact h.dp e q
  · cases h3 with
    | lst r =>
      rw [toPy] at q
      obtain ⟨ps, h1, rfl⟩ := Option.map_eq_some_iff.mp q
      exact .lst (.inl (.inl h2)) (r.dp e h1)
    | dk _ _ => cases q
    | dt _ _ => cases q
    | obj _ _ _ => cases q
end
noncomputable def addD : D → D → Res D
  | .int i, .int j => .ok (.int (i + j))
  | .str a, .str b => guard (a.length + b.length ≤ sizeLine) (.ok (.str (a ++ b)))
  | .tup a, .tup b => guard (a.length + b.length ≤ sizeLine) (.ok (.tup (a ++ b)))
  | .lst a, .lst b => guard (a.length + b.length ≤ sizeLine) (.ok (.lst (a ++ b)))
  | _, _ => .bad
def rAddX (K : PySem.W.Frag) : R2 := fun x y H Q => (rI0 (fun i j => .int (i + j))) x y H Q ∨ (∃ i j, x = .str i ∧ y = .str j ∧ i.length + j.length ≤ sizeLine ∧ Q (.str (i ++ j)) H) ∨ rCatA K x y H Q ∨ rCat x y H Q
section
variable {X : Cx} {c : Cf}
theorem or_add : OpR X (binaryOp .Add) (rAddX X.K) := op_add.or (op_add_str.or (op_catA.or op_cat))
theorem PostG.ite {σ : St} {S H : Hp} {α : Type} {p : Prop} [Decidable p] {x : Res α} {k : α → Hp → Hp → Prop} (h : PostG c σ S H (if p then x else .bad) k) : p ∧ PostG c σ S H x k := by
  by_cases hp : p
  · rw [if_pos hp] at h; exact ⟨hp, h⟩
  · rw [if_neg hp] at h; exact h.elim
theorem os_add : OpS c (mV c) (rAddX c.K) addD := by
  intro σ S H x y d e Q ex hx hy p
  unfold addD at p
  split at p
  · cases hx.int; cases hy.int
    exact .inl ⟨_, _, rfl, rfl, p.here ex (.int _)⟩
  · cases hx.str; cases hy.str
    obtain ⟨hl, p⟩ := p.gd
    exact .inr (.inl ⟨_, _, rfl, rfl, hl, p.here ex (.str _)⟩)
  · obtain ⟨q1, xs, rfl, a1, r1, s1⟩ := hx.tup ex
    obtain ⟨q2, ys, rfl, a2, r2, s2⟩ := hy.tup ex
    obtain ⟨hl, p⟩ := p.gd
    refine .inr (.inr (.inl ⟨_, _, xs, ys, rfl, rfl, a1, a2, by rw [r1.length, r2.length]; exact hl, fun h => ?_, fun _ h => ?_, fun _ _ q hq => ?_⟩))
    · subst h; cases r1; exact p.here ex (.tup s2 r2)
    · subst h; cases r2; rw [List.append_nil] at p; exact p.here ex (.tup s1 r1)
    · exact p.laid ex hq (.tup upd_same ((r1.app r2).mono (Ex.new (ex.nn hq))))
  · obtain ⟨q1, xs, rfl, a1, r1⟩ := hx.list ex
    obtain ⟨q2, ys, rfl, a2, r2⟩ := hy.list ex
    obtain ⟨hl, p⟩ := p.gd
    refine .inr (.inr (.inr ⟨_, _, xs, ys, rfl, rfl, a1, a2, by rw [r1.length, r2.length]; exact hl, fun q hq => ?_⟩))
    exact p.laid ex hq (.lst upd_same ((r1.app r2).mono (Ex.new (ex.nn hq))))
  · exact p.elim
/-- list + list, the new list one's own -/
noncomputable def addL : D → D → Res D
  | .lst a, .lst b => guard (a.length + b.length ≤ sizeLine) (.ok (.lst (a ++ b)))
  | _, _ => .bad
def subD : D → D → Res D
  | .int i, .int j => .ok (.int (i - j))
  | _, _ => .bad
theorem os_sub : OpS c (mV c) (rI0 fun i j => .int (i - j)) subD := by
  intro σ S H x y d e Q ex hx hy p
  unfold subD at p
  split at p
  · cases hx.int; cases hy.int
    exact ⟨_, _, rfl, rfl, p.here ex (.int _)⟩
  · exact p.elim
def smallI (i : Int) : Prop := -(2 ^ 64) < i ∧ i < 2 ^ 64
theorem RpA.rep {K : PySem.W.Frag} {cm : CM} {S : Hp} {vs : List V} {ds : List D} (h : RpA K cm S vs ds) : ∀ n : Nat, RpA K cm S (List.replicate n vs).flatten (List.replicate n ds).flatten
  | 0 => .nil
  | n + 1 => by rw [List.replicate_succ, List.replicate_succ, List.flatten_cons, List.flatten_cons]; exact h.app (RpA.rep h n)
noncomputable def mulD : D → D → Res D
  | .int i, .int j => guard (smallI i ∨ smallI j) (.ok (.int (i * j)))
  | .lst a, .int k => guard (0 ≤ k ∧ k < 2 ^ 60 ∧ a.length * k.toNat ≤ sizeLine) (.ok (.lst (List.replicate k.toNat a).flatten))
  | _, _ => .bad
def rMulX : R2 := fun x y H Q => (rI CMul (fun i j => .int (i * j))) x y H Q ∨ rRep x y H Q
theorem or_mul : OpR X (binaryOp .Mult) rMulX := op_mul.or op_rep
theorem os_mul : OpS c (mV c) rMulX mulD := by
  intro σ S H x y d e Q ex hx hy p
  unfold mulD at p
  split at p
  · cases hx.int; cases hy.int
    obtain ⟨hl, p⟩ := p.gd
    exact .inl ⟨_, _, rfl, rfl, hl, p.here ex (.int _)⟩
  · obtain ⟨q1, xs, rfl, a1, r1⟩ := hx.list ex
    cases hy.int
    obtain ⟨⟨h0, h1, h2⟩, p⟩ := p.gd
    refine .inr ⟨_, _, xs, rfl, rfl, a1, by omega, by omega, by rw [r1.length]; exact h2, fun q hq => ?_⟩
    exact p.laid ex hq (.lst upd_same ((r1.rep _).mono (Ex.new (ex.nn hq))))
  · exact p.elim
noncomputable def fdivD : D → D → Res D
  | .int i, .int j => if 0 < j then guard (j < 4611686018427387904) (.ok (.int (i / j))) else guard (j ≠ 0 ∧ j.natAbs < 1073741824) (.ok (.int (i.fdiv j)))
  | _, _ => .bad
def rFdivX : R2 := fun x y H Q => (rI CDivW (fun i j => .int (i / j))) x y H Q ∨ (rI CDivN (fun i j => .int (i.fdiv j))) x y H Q
theorem or_fdiv : OpR X (binaryOp .FloorDiv) rFdivX := op_fdivW.or op_fdivN
theorem os_fdiv : OpS c (mV c) rFdivX fdivD := by
  intro σ S H x y d e Q ex hx hy p
  unfold fdivD at p
  split at p
  · cases hx.int; cases hy.int
    split at p
    · rename_i h
      obtain ⟨h2, p⟩ := p.gd
      exact .inl ⟨_, _, rfl, rfl, wide_div (b := 62) h (by omega) (by decide) (by decide), p.here ex (.int _)⟩
    · obtain ⟨h, p⟩ := p.gd
      exact .inr ⟨_, _, rfl, rfl, h, p.here ex (.int _)⟩
  · exact p.elim
noncomputable def modD : D → D → Res D
  | .int i, .int j => guard (0 < j) (.ok (.int (i % j)))
  | _, _ => .bad
theorem os_mod : OpS c (mV c) (rI (fun _ j => 0 < j) fun i j => .int (i % j)) modD := by
  intro σ S H x y d e Q ex hx hy p
  unfold modD at p
  split at p
  · cases hx.int; cases hy.int
    obtain ⟨h, p⟩ := p.gd
    exact ⟨_, _, rfl, rfl, h, p.here ex (.int _)⟩
  · exact p.elim
def intsD (g : Int → Int → Int) : D → D → Res D
  | .int i, .int j => .ok (.int (g i j))
  | _, _ => .bad
def eqFlat : D → D → Option Bool
  | .int i, .int j => some (decide (i = j))
  | .str a, .str b => some (decide (a = b))
  | .bl a, .bl b => some (decide (a = b))
  | .non, .non => some true
  | .non, .int _ => some false
  | .non, .bl _ => some false
  | .non, .str _ => some false
  | .int _, .non => some false
  | .bl _, .non => some false
  | .str _, .non => some false
  | .int _, .str _ => some false
  | .str _, .int _ => some false
  | .bl _, .str _ => some false
  | .str _, .bl _ => some false
  | _, _ => none
def eqDeep (d e : D) : Res Bool := match toPy d, toPy e with
  | some p, some q => if SeqAt.shaped p = true ∧ SeqAt.shaped q = true then .ok (PyData.eqv p q) else .bad
  | _, _ => .bad
def eqB (d e : D) : Res Bool := match eqFlat d e with
  | some b => .ok b
  | none => eqDeep d e
def eqD (d e : D) : Res D := (eqB d e).bind fun b => .ok (.bl b)
def neD (d e : D) : Res D := (eqB d e).bind fun b => .ok (.bl (!b))
theorem of_eqDeep {σ : St} {S H : Hp} {x y : V} {d e : D} {g : Bool → Res D} {k : D → Hp → Hp → Prop} (ex : Ex S H) (hx : RpB c.K c.cm S H x d) (hy : RpB c.K c.cm S H y e) (p : PostG c σ S H ((eqDeep d e).bind g) k) :
    ∃ u v, Dp c.K H x u ∧ Dp c.K H y v ∧ SeqAt.shaped u = true ∧ SeqAt.shaped v = true ∧ PostG c σ S H (g (PyData.eqv u v)) k := by
  unfold eqDeep at p
  split at p
  · rename_i u v h1 h2
    by_cases hs : SeqAt.shaped u = true ∧ SeqAt.shaped v = true
    · rw [if_pos hs] at p
      exact ⟨u, v, hx.dp ex h1, hy.dp ex h2, hs.1, hs.2, p⟩
    · rw [if_neg hs] at p
      exact p.elim
  · exact p.elim
theorem of_eqFlat {S H : Hp} {x y : V} {d e : D} {b : Bool} (hx : RpB c.K c.cm S H x d) (hy : RpB c.K c.cm S H y e) (h : eqFlat d e = some b) : scal x y = true ∧ decide (x = y) = b := by
  unfold eqFlat at h
  split at h
  · cases hx.int; cases hy.int; cases h; exact ⟨rfl, by simp⟩
  · cases hx.str; cases hy.str; cases h; exact ⟨rfl, by simp⟩
  · cases hx.bl; cases hy.bl; cases h; exact ⟨rfl, by simp⟩
  · cases hx.non; cases hy.non; cases h; exact ⟨rfl, rfl⟩
  · cases hx.non; cases hy.int; cases h; exact ⟨rfl, rfl⟩
  · cases hx.non; cases hy.bl; cases h; exact ⟨rfl, rfl⟩
  · cases hx.non; cases hy.str; cases h; exact ⟨rfl, rfl⟩
  · cases hx.int; cases hy.non; cases h; exact ⟨rfl, rfl⟩
  · cases hx.bl; cases hy.non; cases h; exact ⟨rfl, rfl⟩
  · cases hx.str; cases hy.non; cases h; exact ⟨rfl, rfl⟩
  · cases hx.int; cases hy.str; cases h; exact ⟨rfl, rfl⟩
  · cases hx.str; cases hy.int; cases h; exact ⟨rfl, rfl⟩
  · cases hx.bl; cases hy.str; cases h; exact ⟨rfl, rfl⟩
  · cases hx.str; cases hy.bl; cases h; exact ⟨rfl, rfl⟩
  · cases h
def rEqX (K : PySem.W.Frag) : R2 := fun x y H Q => rEq x y H Q ∨ rEqD K x y H Q
def rNeX (K : PySem.W.Frag) : R2 := fun x y H Q => rNe x y H Q ∨ rNeD K x y H Q
theorem or_eq (hu : X.A.units + 64 < cLine) : OpR X (compareOp .Eq) (rEqX X.K) := op_eq.or (op_eqD hu)
theorem or_ne (hu : X.A.units + 64 < cLine) : OpR X (compareOp .NotEq) (rNeX X.K) := op_ne.or (op_neD hu)
theorem os_eq : OpS c (mV c) (rEqX c.K) eqD := by
  intro σ S H x y d e Q ex hx hy p
  unfold eqD eqB at p
  split at p
  · rename_i b hb
    obtain ⟨h1, h2⟩ := of_eqFlat hx hy hb
    refine .inl ⟨h1, ?_⟩
    rw [h2]; exact p.here ex (.bl _)
  · obtain ⟨u, v, h1, h2, h3, h4, p⟩ := of_eqDeep ex hx hy p
    exact .inr ⟨u, v, h1, h2, h3, h4, p.here ex (.bl _)⟩
theorem os_ne : OpS c (mV c) (rNeX c.K) neD := by
  intro σ S H x y d e Q ex hx hy p
  unfold neD eqB at p
  split at p
  · rename_i b hb
    obtain ⟨h1, h2⟩ := of_eqFlat hx hy hb
    refine .inl ⟨h1, ?_⟩
    rw [h2]; exact p.here ex (.bl _)
  · obtain ⟨u, v, h1, h2, h3, h4, p⟩ := of_eqDeep ex hx hy p
    exact .inr ⟨u, v, h1, h2, h3, h4, p.here ex (.bl _)⟩
/-- by ints, by texts -/
def ordD (g : Int → Int → Bool) (h : Str → Str → Bool) : D → D → Res D
  | .int i, .int j => .ok (.bl (g i j))
  | .str a, .str b => .ok (.bl (h a b))
  | _, _ => .bad
def rOrd (g : Int → Int → Bool) (h : Str → Str → Bool) : R2 := fun x y H Q => (rI0 fun i j => .bl (g i j)) x y H Q ∨ ∃ i j, x = .str i ∧ y = .str j ∧ Q (.bl (h i j)) H
theorem os_ord {g : Int → Int → Bool} {h : Str → Str → Bool} : OpS c (mV c) (rOrd g h) (ordD g h) := by
  intro σ S H x y d e Q ex hx hy p
  unfold ordD at p
  split at p
  · cases hx.int; cases hy.int
    exact .inl ⟨_, _, rfl, rfl, p.here ex (.bl _)⟩
  · cases hx.str; cases hy.str
    exact .inr ⟨_, _, rfl, rfl, p.here ex (.bl _)⟩
  · exact p.elim
abbrev ltD : D → D → Res D := ordD (fun i j => decide (i < j)) fun i j => decide (i.cps.toList < j.cps.toList)
abbrev leD : D → D → Res D := ordD (fun i j => decide (i ≤ j)) fun i j => !decide (j.cps.toList < i.cps.toList)
abbrev gtD : D → D → Res D := ordD (fun i j => decide (j < i)) fun i j => decide (j.cps.toList < i.cps.toList)
abbrev geD : D → D → Res D := ordD (fun i j => decide (j ≤ i)) fun i j => !decide (i.cps.toList < j.cps.toList)
theorem or_lt : OpR X (compareOp .Lt) (rOrd (fun i j => decide (i < j)) fun i j => decide (i.cps.toList < j.cps.toList)) := op_lt.or op_lt_str
theorem or_le : OpR X (compareOp .LtE) (rOrd (fun i j => decide (i ≤ j)) fun i j => !decide (j.cps.toList < i.cps.toList)) := op_le.or op_le_str
theorem or_gt : OpR X (compareOp .Gt) (rOrd (fun i j => decide (j < i)) fun i j => decide (j.cps.toList < i.cps.toList)) := op_gt.or op_gt_str
theorem or_ge : OpR X (compareOp .GtE) (rOrd (fun i j => decide (j ≤ i)) fun i j => !decide (i.cps.toList < j.cps.toList)) := op_ge.or op_ge_str
/-- is None, is not None -/
def isN : D → Bool
  | .non => true
  | _ => false
def isD (neg : Bool) (d e : D) : Res D := if isN e = true then .ok (.bl (if neg then !isN d else isN d)) else .bad
theorem RpB.isN {K : PySem.W.Frag} {cm : CM} {S H : Hp} {v : V} {d : D} (h : RpB K cm S H v d) : decide (v = .non) = isN d := by
  rcases h with h | ⟨p, ho, rfl, h2, h3⟩
  · cases h <;> rfl
  · cases h3 <;> rfl
theorem os_is : OpS c (mV c) (fun x y H Q => y = .non ∧ Q (.bl (decide (x = .non))) H) (isD false) := by
  intro σ S H x y d e Q ex hx hy p
  obtain ⟨h, p⟩ := p.ite
  rw [hx.isN]
  refine ⟨of_decide_eq_true (hy.isN.trans h), p.here ex (.bl _)⟩
/-- x in: a list of data, a text in a text, a flat thing in a tuple of flat things -/
def flatD : D → Option V
  | .non => some .non
  | .bl b => some (.bl b)
  | .int i => some (.int i)
  | .str s => some (.str s)
  | _ => none
def flatDs : List D → Option (List V)
  | [] => some []
  | d :: ds => match flatD d, flatDs ds with
    | some v, some vs => some (v :: vs)
    | _, _ => none
def inDeep (d : D) (ds : List D) : Res Bool := match toPy d, toPyL ds with
  | some p, some ps => if SeqAt.shaped p = true ∧ SeqAt.shaped (.list ps) = true then .ok (ps.any fun z => PyData.eqv z p) else .bad
  | _, _ => .bad
def inFlat (d : D) (ds : List D) : Option Bool := match flatD d, flatDs ds with
  | some v, some vs => some (inV v vs)
  | _, _ => none
def inLst (d : D) (ds : List D) : Res Bool := match inFlat d ds with
  | some b => .ok b
  | none => inDeep d ds
def inTup (d : D) (ds : List D) : Res Bool := match inFlat d ds with
  | some b => .ok b
  | none => .bad
def inStr (a b : Str) : Bool := match a.cps.toList with
  | [n] => decide (n ∈ b.cps.toList)
  | _ => !(Builtin.Str.occurrences b a 0 b.length 1).isEmpty
def inB : D → D → Res Bool
  | d, .lst ds => inLst d ds
  | d, .fz ds => inLst d ds
  | d, .tup ds => inTup d ds
  | .str a, .str b => .ok (inStr a b)
  | _, _ => .bad
def inD (d e : D) : Res D := (inB d e).bind fun b => .ok (.bl b)
def ninD (d e : D) : Res D := (inB d e).bind fun b => .ok (.bl (!b))
theorem RpB.flat {K : PySem.W.Frag} {cm : CM} {S H : Hp} {v u : V} {d : D} (h : RpB K cm S H v d) (q : flatD d = some u) : v = u ∧ flatV u = true := by
  rcases h with h | ⟨p, ho, rfl, h2, h3⟩
  · cases h <;> first | (cases q; exact ⟨rfl, rfl⟩) | cases q
  · cases h3 <;> cases q
theorem RpA.flat {K : PySem.W.Frag} {cm : CM} {S : Hp} : ∀ {vs us : List V} {ds : List D}, RpA K cm S vs ds → flatDs ds = some us → vs = us ∧ us.all flatV = true
  | _, _, [], h, q => by cases h; cases q; exact ⟨rfl, rfl⟩
  | _, _, d :: ds, h, q => by
    cases h with | cons a r =>
    rw [flatDs] at q
    cases h1 : flatD d with
    | none => rw [h1] at q; cases q
    | some u =>
      cases h2 : flatDs ds with
      | none => rw [h1, h2] at q; cases q
      | some us =>
        rw [h1, h2] at q
        cases q
        obtain ⟨rfl, z1⟩ := RpB.flat (H := S) (.inl a) h1
        obtain ⟨rfl, z2⟩ := RpA.flat r h2
        exact ⟨rfl, by simp [z1, z2]⟩
def rInX (K : PySem.W.Frag) (neg : Bool) : R2 := fun x y H Q => (∃ d ds, Dp K H x d ∧ Dp K H y (.list ds) ∧ SeqAt.shaped d = true ∧ SeqAt.shaped (.list ds) = true ∧ Q (.bl (if neg then !ds.any fun z => PyData.eqv z d else ds.any fun z => PyData.eqv z d)) H) ∨
  rIn K neg x y H Q ∨ (∃ i j, x = .str i ∧ y = .str j ∧ Q (.bl (if neg then !(!(Builtin.Str.occurrences j i 0 j.length 1).isEmpty) else !(Builtin.Str.occurrences j i 0 j.length 1).isEmpty)) H) ∨
  ∃ (n : Nat) (z : Str), x = .str ⟨#[n]⟩ ∧ y = .str z ∧ Q (.bl (if neg then !decide (n ∈ z.cps.toList) else decide (n ∈ z.cps.toList))) H
theorem or_nin (hu : X.A.units + 65 < cLine) : OpR X (compareOp .NotIn) (rInX X.K true) := (op_notInD hu).or (op_notIn_seq.or (op_notIn_str.or op_notIn_sign))
theorem of_inFlat {S H : Hp} {x : V} {d : D} {xs : List V} {ds : List D} {b : Bool} (hx : RpB c.K c.cm S H x d) (r1 : RpA c.K c.cm S xs ds) (h : inFlat d ds = some b) : flatV x = true ∧ xs.all flatV = true ∧ inV x xs = b := by
  unfold inFlat at h
  split at h
  · rename_i v vs h1 h2
    obtain ⟨rfl, z1⟩ := hx.flat h1
    obtain ⟨rfl, z2⟩ := r1.flat h2
    cases h
    exact ⟨z1, z2, rfl⟩
  · cases h
theorem of_inLst {σ : St} {S H : Hp} {x y : V} {d : D} {ds : List D} {neg : Bool} {Q : VK} {q : Addr} {xs : List V} (ex : Ex S H) (hx : RpB c.K c.cm S H x d) (hy : y = .ref q) (a1 : SqL c.K H q xs) (r1 : RpA c.K c.cm S xs ds) (hd : ∀ ps, toPyL ds = some ps → Dp c.K H y (.list ps))
    (p : PostG c σ S H ((inLst d ds).bind fun b => .ok (.bl (if neg then !b else b))) fun a S' H' => ∀ b, mV c H S' H' b a → Q b H') : rInX c.K neg x y H Q := by
  unfold inLst at p
  split at p
  · rename_i b hb
    obtain ⟨z1, z2, z3⟩ := of_inFlat hx r1 hb
    refine .inr (.inl ⟨q, xs, hy, .inl a1, z1, z2, ?_⟩)
    rw [z3]; exact p.here ex (.bl _)
  · unfold inDeep at p
    split at p
    · rename_i p' ps h1 h2
      by_cases hs : SeqAt.shaped p' = true ∧ SeqAt.shaped (.list ps) = true
      · rw [if_pos hs] at p
        exact .inl ⟨p', ps, hx.dp ex h1, hd ps h2, hs.1, hs.2, p.here ex (.bl _)⟩
      · rw [if_neg hs] at p; exact p.elim
    · exact p.elim
theorem of_inB {σ : St} {S H : Hp} {x y : V} {d e : D} {neg : Bool} {Q : VK} (ex : Ex S H) (hx : RpB c.K c.cm S H x d) (hy : RpB c.K c.cm S H y e)
    (p : PostG c σ S H ((inB d e).bind fun b => .ok (.bl (if neg then !b else b))) fun a S' H' => ∀ b, mV c H S' H' b a → Q b H') : rInX c.K neg x y H Q := by
  unfold inB at p
  split at p
  · obtain ⟨q, xs, hq, a1, r1⟩ := hy.list ex
    exact of_inLst ex hx hq (.inl (.inl a1)) r1 (fun ps h => hy.dp ex (by rw [toPy, h]; rfl)) p
  · obtain ⟨q, xs, hq, a1, r1⟩ := hy.fz ex
    exact of_inLst ex hx hq a1 r1 (fun ps h => hy.dp ex (by rw [toPy, h]; rfl)) p
  · unfold inTup at p
    split at p
    · rename_i b hb
      obtain ⟨q, xs, rfl, a1, r1, s1⟩ := hy.tup ex
      obtain ⟨z1, z2, z3⟩ := of_inFlat hx r1 hb
      refine .inr (.inl ⟨q, xs, rfl, .inr a1, z1, z2, ?_⟩)
      rw [z3]; exact p.here ex (.bl _)
    · exact p.elim
  · rename_i a b
    cases hx.str; cases hy.str
    unfold inStr at p
    split at p
    · rename_i n hn
      have ha : a = ⟨#[n]⟩ := Str.ext' (Array.toList_inj.mp (by rw [hn]))
      exact .inr (.inr (.inr ⟨n, b, by rw [ha], rfl, p.here ex (.bl _)⟩))
    · exact .inr (.inr (.inl ⟨_, _, rfl, rfl, p.here ex (.bl _)⟩))
  · exact p.elim
theorem os_nin : OpS c (mV c) (rInX c.K true) ninD := fun σ S H x y d e Q ex hx hy p => of_inB (neg := true) ex hx hy p
end
end Dx
end S_DxC
section S_DxD
set_option Elab.async false
set_option linter.all false
set_option maxRecDepth 100000
set_option maxHeartbeats 2000000
namespace Dx
open PySem L2
section
variable {X : Cx} {c : Cf} {G : List Ow} {f f1 f2 f3 : Rho → Res D} {a b e : Expr} {es : List Expr} {pos p : Pos} {fs : Rho → Res (List D)}
def dChain (g g' : D → D → Res D) (f1 f2 f3 : Rho → Res D) : Rho → Res D := fun r => (f1 r).bind fun x => (f2 r).bind fun y => (g x y).bind fun z => (asB z).bind fun k => if k = true then (f3 r).bind fun w => g' y w else .ok (.bl false)
theorem chain_rd {r2 r2' : R2} {g g' : D → D → Res D} (hs : OpS c (mV c) r2 g) (hs' : OpS c (mV c) r2' g') : ∀ σ H Q, tV c G (dChain g g' f1 f2 f3) σ H Q → tChain r2 r2' (tR c G f1) (tR c G f2) (tR c G f3) σ H Q := fun σ H Q ⟨S0, H0, S, r, ok, p⟩ =>
  rd_seq ok p fun x v S1 H1 w1 o1 m1 p1 => rd_seq o1 p1 fun y u S2 H2 w2 o2 m2 p2 => hs σ S2 H2 v u x y _ o2.ex (RpB.mono m1 w2.s w2.h) m2 (p2.unbind.imp fun z S3 H3 w3 p3 bz hz => by
    obtain ⟨k, rfl, q3⟩ := of_asB (PostG.imp p3.unbind fun _ _ _ _ h => h)
    cases hz
    refine ⟨k, rfl, ?_⟩
    have o3 := o2.go w3
    have p4 := q3.go o3.ex
    cases k with
    | true => exact rd_seq o3 p4 fun w u' S4 H4 w4 o4 m4 p5 => hs' σ S4 H4 u u' y w Q o4.ex (RpB.mono m2 (w3.s.trans w4.s) (w3.h.trans w4.h)) m4 p5
    | false => exact p4.go o3.ex _ (.bl _))
theorem dt_chain {op op' : CmpOp} {r2 r2' : R2} {g g' : D → D → Res D} {e3 : Expr} (ho : OpR X (compareOp op) r2) (hs : OpS c (mV c) r2 g) (ho' : OpR X (compareOp op') r2') (hs' : OpS c (mV c) r2' g') (ha : PE X a (tR c G f1)) (hb : PE X b (tR c G f2)) (hc : PE X e3 (tR c G f3))
    (hm : lastMarks [op, op'] [b, e3] = false := by with_unfolding_all rfl) : PT X (.Compare a [op, op'] [b, e3] pos) (tT c G (dT (dChain g g' f1 f2 f3))) := pt_imp (pt_chain ho ho' ha hb hc hm) fun σ H Q ⟨S0, H0, S, r, ok, p⟩ => by
  refine chain_rd (G := G) hs hs' σ H _ (rd_seq ok p fun d v S1 H1 w1 o1 m1 p1 => ?_)
  obtain ⟨b, rfl, p1⟩ := of_asB p1
  cases m1
  exact ⟨b, rfl, p1.go o1.ex _ rfl⟩
def negD : D → Res D
  | .int i => .ok (.int (-i))
  | _ => .bad
def dUn (g : D → Res D) (f : Rho → Res D) : Rho → Res D := fun r => (f r).bind g
theorem de_one {op : BoolOp} (h : PE X a (tV c G f)) : PE X (.BoolOp op [a] pos) (tV c G f) := pe_one h
theorem de_and {rest : List Expr} (ha : PE X a (tV c G f1)) (hb : PE X (.BoolOp .And (b :: rest) pos) (tV c G f2)) : PE X (.BoolOp .And (a :: b :: rest) pos) (tV c G (dAndV f1 f2)) := pe_imp (pe_and ha hb) fun σ H Q ⟨S0, H0, S, r, ok, p⟩ =>
  rd_seq ok p fun d v S1 H1 w1 o1 m1 p1 => by
    obtain ⟨k, rfl, q1⟩ := of_asB (p1.unbind)
    cases m1
    refine ⟨k, rfl, ?_⟩
    have p2 := q1.go o1.ex
    cases k with
    | true => exact ⟨S0, H0, S1, r, o1, p2⟩
    | false => exact p2.go o1.ex _ (.bl _)
theorem de_not (ha : PE X a (tV c G f)) : PE X (.UnaryOp .Not a pos) (tV c G (dNotV f)) := pe_imp (pe_not ha) fun σ H Q ⟨S0, H0, S, r, ok, p⟩ =>
  rd_seq ok p fun d v S1 H1 w1 o1 m1 p1 => by
    obtain ⟨k, rfl, q1⟩ := of_asB (p1.unbind)
    cases m1
    exact ⟨k, rfl, (q1.go o1.ex).go o1.ex _ (.bl _)⟩
def dNil : Rho → Res (List D) := fun _ => .ok []
def dCons (f : Rho → Res D) (g : Rho → Res (List D)) : Rho → Res (List D) := fun r => (f r).bind fun x => (g r).bind fun xs => .ok (x :: xs)
/-- with a mode for each: true, a thing that is only read -/
def RpM (c : Cf) (S H : Hp) : List Bool → List V → List D → Prop
  | [], [], [] => True
  | true :: ms, v :: vs, d :: ds => RpB c.K c.cm S H v d ∧ RpM c S H ms vs ds
  | false :: ms, v :: vs, d :: ds => Rp c.K c.cm S v d ∧ RpM c S H ms vs ds
  | _, _, _ => False
theorem RpM.mono {S H S' H' : Hp} (e : Ex S S') (e' : Ex H H') : ∀ {ms : List Bool} {vs : List V} {ds : List D}, RpM c S H ms vs ds → RpM c S' H' ms vs ds
  | [], [], [], _ => trivial
  | true :: ms, v :: vs, d :: ds, h => ⟨h.1.mono e e', RpM.mono e e' h.2⟩
  | false :: ms, v :: vs, d :: ds, h => ⟨h.1.mono e, RpM.mono e e' h.2⟩
  | [], _ :: _, _, h => h.elim
  | [], [], _ :: _, h => h.elim
  | true :: _, [], _, h => h.elim
  | true :: _, _ :: _, [], h => h.elim
  | false :: _, [], _, h => h.elim
  | false :: _, _ :: _, [], h => h.elim
def mM (c : Cf) (ms : List Bool) : Md (List V) (List D) := fun _ S' H' vs ds => RpM c S' H' ms vs ds
instance {ms : List Bool} : Anti (mM c ms) := ⟨fun _ h => h⟩
abbrev tM (c : Cf) (G : List Ow) (ms : List Bool) (f : Rho → Res (List D)) : TA := rd c G f (mM c ms)
theorem dm_nil : PA X [] (tM c G [] dNil) := pa_imp pa_nil fun σ H Q ⟨S0, H0, S, r, ok, p⟩ => p.go ok.ex _ trivial
theorem dm_bor {ms : List Bool} (ha : PE X e (tR c G f)) (hr : PA X es (tM c G ms fs)) (hs : starEach (e :: es) X.env = (false, eval e X.env) :: starEach es X.env := by rfl) : PA X (e :: es) (tM c G (true :: ms) (dCons f fs)) :=
  pa_imp (pa_cons ha hr hs) fun σ H Q ⟨S0, H0, S, r, ok, p⟩ => rd_seq ok p fun x v S1 H1 w1 o1 m1 p1 => rd_seq o1 p1 fun xs vs S2 H2 w2 o2 m2 p2 => p2.go o2.ex _ ⟨RpB.mono m1 w2.s w2.h, m2⟩
theorem dm_val {ms : List Bool} (ha : PE X e (tV c G f)) (hr : PA X es (tM c G ms fs)) (hs : starEach (e :: es) X.env = (false, eval e X.env) :: starEach es X.env := by rfl) : PA X (e :: es) (tM c G (false :: ms) (dCons f fs)) :=
  pa_imp (pa_cons ha hr hs) fun σ H Q ⟨S0, H0, S, r, ok, p⟩ => rd_seq ok p fun x v S1 H1 w1 o1 m1 p1 => rd_seq o1 p1 fun xs vs S2 H2 w2 o2 m2 p2 => p2.go o2.ex _ ⟨Rp.mono w2.s m1, m2⟩
theorem da_nil : PA X [] (tAs c G dNil) := pa_imp pa_nil fun σ H Q ⟨S0, H0, S, r, ok, p⟩ => p.go ok.ex _ .nil
theorem da_cons (ha : PE X e (tV c G f)) (hr : PA X es (tAs c G fs)) (hs : starEach (e :: es) X.env = (false, eval e X.env) :: starEach es X.env := by rfl) : PA X (e :: es) (tAs c G (dCons f fs)) :=
  pa_imp (pa_cons ha hr hs) fun σ H Q ⟨S0, H0, S, r, ok, p⟩ => rd_seq ok p fun x v S1 H1 w1 o1 m1 p1 => rd_seq o1 p1 fun xs vs S2 H2 w2 o2 m2 p2 => p2.go o2.ex _ (.cons (Rp.mono w2.s m1) m2)
noncomputable def mkTup (ds : List D) : Res D := guard (ds.length ≤ sizeLine) (.ok (.tup ds))
noncomputable def mkLst (ds : List D) : Res D := guard (ds.length ≤ sizeLine) (.ok (.lst ds))
noncomputable def dTup (g : Rho → Res (List D)) : Rho → Res D := fun r => (g r).bind mkTup
noncomputable def dLst (g : Rho → Res (List D)) : Rho → Res D := fun r => (g r).bind mkLst
theorem de_tup {k : Nat} (h : PA X es (tAs c G fs)) : PE X (.Tuple es k pos) (tV c G (dTup fs)) := pe_imp (pe_tup h) fun σ H Q ⟨S0, H0, S, r, ok, p⟩ => rd_seq ok p fun ds vs S1 H1 w1 o1 m1 p1 => by
  obtain ⟨hl, p1⟩ := p1.gd
  exact ⟨by rw [RpA.length m1]; exact hl, fun q hq => p1.laid o1.ex hq (.tup upd_same (RpA.mono (Ex.new (o1.ex.nn hq)) m1))⟩
theorem de_lst (h : PA X es (tAs c G fs)) : PE X (.List es pos) (tO c G (dLst fs)) := pe_imp (pe_lst h) fun σ H Q ⟨S0, H0, S, r, ok, p⟩ => rd_seq ok p fun ds vs S1 H1 w1 o1 m1 p1 => by
  obtain ⟨hl, p1⟩ := p1.gd
  exact ⟨by rw [RpA.length m1]; exact hl, fun q hq => (p1.anti w1.h).kept o1.ex hq (.lst m1)⟩
def CallS (c : Cf) (R : Md V D) (r : List V → Hp → VK → Prop) (ms : List Bool) (g : List D → Res D) : Prop := ∀ (σ : St) (S H : Hp) (vs : List V) (ds : List D) (Q : VK), Ex S H → RpM c S H ms vs ds →
  PostG c σ S H (g ds) (fun a S' H' => ∀ b, R H S' H' b a → Q b H') → r vs H Q
def dCall (g : List D → Res D) (fs : Rho → Res (List D)) : Rho → Res D := fun r => (fs r).bind g
theorem de_bltn {R : Md V D} [Anti R] {x : Str} {id : String} {ms : List Bool} {r : List V → Hp → VK → Prop} {g : List D → Res D} (hc : CallR X (.builtin id) r) (hs : CallS c R r ms g) (hg : Gl X x) (hm : X.mg x = none) (hv : bootBuiltins x = some (.builtin id)) (ha : PA X (e :: es) (tM c G ms fs))
    (hn : x ≠ "__name__" := by decide) (hdb : (x == ("__debug__" : Str)) = false := by decide) (he : starEach (e :: es) X.env = (false, eval e X.env) :: starEach es X.env := by rfl) (hpl : (backTo pos (starEach es X.env)).any (·.1) = false := by rfl) :
    PE X (.Call (.Name x p) (e :: es) [] pos) (rd c G (dCall g fs) R) := pe_imp (pe_callB hc hg hm hv ha hn hdb he hpl) fun σ H Q ⟨S0, H0, S, r, ok, p⟩ => rd_seq ok p fun ds vs S1 H1 w1 o1 m1 p1 => hs σ S1 H1 vs ds Q o1.ex m1 (p1.anti w1.h)
theorem de_type {R : Md V D} [Anti R] {x : Str} {T : String} {ms : List Bool} {r : List V → Hp → VK → Prop} {g : List D → Res D} (hc : CallR X (.type T) r) (hs : CallS c R r ms g) (hg : Gl X x) (hm : X.mg x = none) (hv : bootBuiltins x = some (.type T)) (ha : PA X (e :: es) (tM c G ms fs))
    (hn : x ≠ "__name__" := by decide) (hdb : (x == ("__debug__" : Str)) = false := by decide) (he : starEach (e :: es) X.env = (false, eval e X.env) :: starEach es X.env := by rfl) (hpl : (backTo pos (starEach es X.env)).any (·.1) = false := by rfl) :
    PE X (.Call (.Name x p) (e :: es) [] pos) (rd c G (dCall g fs) R) := pe_imp (pe_callTy hc hg hm hv ha hn hdb he hpl) fun σ H Q ⟨S0, H0, S, r, ok, p⟩ => rd_seq ok p fun ds vs S1 H1 w1 o1 m1 p1 => hs σ S1 H1 vs ds Q o1.ex m1 (p1.anti w1.h)
theorem RpM.one {S H : Hp} {vs : List V} {ds : List D} (h : RpM c S H [true] vs ds) : ∃ v d, vs = [v] ∧ ds = [d] ∧ RpB c.K c.cm S H v d := by
  match vs, ds, h with
  | [v], [d], h => exact ⟨v, d, rfl, rfl, h.1⟩
  | _ :: _ :: _, [_], h => exact h.2.elim
  | [_], _ :: _ :: _, h => exact h.2.elim
  | _ :: _ :: _, _ :: _ :: _, h => exact h.2.elim
  | [], _, h => exact h.elim
  | _ :: _, [], h => exact h.elim
/-- len -/
noncomputable def lenD : D → Res D
  | .str z => guard (z.length ≤ sizeLine) (.ok (.int z.length))
  | .lst ds => .ok (.int ds.length)
  | .fz ds => .ok (.int ds.length)
  | .tup ds => .ok (.int ds.length)
  | .kt ds => .ok (.int ds.length)
  | _ => .bad
def g1 (g : D → Res D) : List D → Res D
  | [d] => g d
  | _ => .bad
def g2 (g : D → D → Res D) : List D → Res D
  | [d, e] => g d e
  | _ => .bad
theorem cs_len : CallS c (mV c) (fun xs H Q => ∃ x n, xs = [x] ∧ LenV c.K x H n ∧ Q (.int n) H) [true] (g1 lenD) := by
  intro σ S H vs ds Q ex m p
  obtain ⟨v, d, rfl, rfl, h⟩ := m.one
  cases d with
  | str z =>
    obtain ⟨hl, p⟩ := p.gd
    cases h.str
    exact ⟨_, _, rfl, ⟨hl, rfl⟩, p.here ex (.int _)⟩
  | lst ds =>
    obtain ⟨q, xs, rfl, a1, r1⟩ := h.list ex
    exact ⟨_, _, rfl, .inl ⟨xs, .inl (.inl a1), r1.length.symm⟩, p.here ex (.int _)⟩
  | fz ds =>
    obtain ⟨q, xs, rfl, a1, r1⟩ := h.fz ex
    exact ⟨_, _, rfl, .inl ⟨xs, a1, r1.length.symm⟩, p.here ex (.int _)⟩
  | tup ds =>
    obtain ⟨q, xs, rfl, a1, r1, s1⟩ := h.tup ex
    exact ⟨_, _, rfl, .inr ⟨xs, a1, r1.length.symm⟩, p.here ex (.int _)⟩
  | kt ds =>
    obtain ⟨q, xs, rfl, a1, r1, s1⟩ := h.kt ex
    exact ⟨_, _, rfl, .inr ⟨xs, a1, r1.length.symm⟩, p.here ex (.int _)⟩
  | _ => exact p.elim
/-- int(..) -/
noncomputable def intD : D → Res D
  | .int i => .ok (.int i)
  | .bl k => .ok (.int (if k then 1 else 0))
  | .str a => match PySem.intText? a with
    | some n => guard (a.length ≤ 640) (.ok (.int n))
    | none => .bad
  | _ => .bad
def rIntX : List V → Hp → VK → Prop := fun xs H Q => ((∃ i, xs = [.int i] ∧ Q (.int i) H) ∨ ∃ k, xs = [.bl k] ∧ Q (.int (if k then 1 else 0)) H) ∨ ∃ a n, xs = [.str a] ∧ PySem.intText? a = some n ∧ a.length ≤ 640 ∧ Q (.int n) H
theorem cr_int : CallR X (.type "int") rIntX := call_int1.or call_int_str
theorem cs_int : CallS c (mV c) rIntX [true] (g1 intD) := by
  intro σ S H vs ds Q ex m p
  obtain ⟨v, d, rfl, rfl, h⟩ := m.one
  cases d with
  | int i => cases h.int; exact .inl (.inl ⟨_, rfl, p.here ex (.int _)⟩)
  | bl k => cases h.bl; exact .inl (.inr ⟨_, rfl, p.here ex (.int _)⟩)
  | str a =>
    cases h.str
    unfold g1 intD at p
    dsimp only at p
    split at p
    · rename_i n hn
      obtain ⟨hl, p⟩ := p.gd
      exact .inr ⟨_, n, rfl, hn, hl, p.here ex (.int _)⟩
    · exact p.elim
  | _ => exact p.elim
def absD : D → Res D
  | .int i => .ok (.int (if i < 0 then -i else i))
  | _ => .bad
/-- list(..), tuple(..) -/
def itemsL : D → Res (List D)
  | .lst ds => .ok ds
  | .fz ds => .ok ds
  | _ => .bad
def itemsT : D → Res (List D)
  | .tup ds => .ok ds
  | _ => .bad
def items : D → Res (List D)
  | .lst ds => .ok ds
  | .fz ds => .ok ds
  | .tup ds => .ok ds
  | _ => .bad
def listD (d : D) : Res D := match d with
  | .kt ds => .ok (.lst ds)
  | d => (items d).bind fun ds => .ok (.lst ds)
theorem cs_list : CallS c (mO c) (fun xs H Q => ∃ p ys, xs = [.ref p] ∧ (SqL c.K H p ys ∨ SqT c.K H p ys) ∧ ∀ l, H l = none → Q (.ref l) (upd H l (.lst ys))) [true] (g1 listD) := by
  intro σ S H vs ds Q ex m p
  obtain ⟨v, d, rfl, rfl, h⟩ := m.one
  cases d with
  | lst ds =>
    obtain ⟨q, xs, rfl, a1, r1⟩ := h.list ex
    exact ⟨q, xs, rfl, .inl (.inl (.inl a1)), fun l hl => p.kept ex hl (.lst r1)⟩
  | fz ds =>
    obtain ⟨q, xs, rfl, a1, r1⟩ := h.fz ex
    exact ⟨q, xs, rfl, .inl a1, fun l hl => p.kept ex hl (.lst r1)⟩
  | tup ds =>
    obtain ⟨q, xs, rfl, a1, r1, s1⟩ := h.tup ex
    exact ⟨q, xs, rfl, .inr a1, fun l hl => p.kept ex hl (.lst r1)⟩
  | kt ds =>
    obtain ⟨q, xs, rfl, a1, r1, s1⟩ := h.kt ex
    exact ⟨q, xs, rfl, .inr a1, fun l hl => p.kept ex hl (.lst r1)⟩
  | _ => exact p.elim
def tupleD (d : D) : Res D := (items d).bind fun ds => .ok (.tup ds)
theorem cs_tuple : CallS c (mV c) (fun xs H Q => ∃ p ys, xs = [.ref p] ∧ ((SqL c.K H p ys ∧ ∀ l, H l = none → Q (.ref l) (upd H l (.tup ys))) ∨ (SqT c.K H p ys ∧ Q (.ref p) H))) [true] (g1 tupleD) := by
  intro σ S H vs ds Q ex m p
  obtain ⟨v, d, rfl, rfl, h⟩ := m.one
  cases d with
  | lst ds =>
    obtain ⟨q, xs, rfl, a1, r1⟩ := h.list ex
    exact ⟨q, xs, rfl, .inl ⟨.inl (.inl a1), fun l hl => p.laid ex hl (.tup upd_same (r1.mono (Ex.new (ex.nn hl))))⟩⟩
  | fz ds =>
    obtain ⟨q, xs, rfl, a1, r1⟩ := h.fz ex
    exact ⟨q, xs, rfl, .inl ⟨a1, fun l hl => p.laid ex hl (.tup upd_same (r1.mono (Ex.new (ex.nn hl))))⟩⟩
  | tup ds =>
    obtain ⟨q, xs, rfl, a1, r1, s1⟩ := h.tup ex
    exact ⟨q, xs, rfl, .inr ⟨a1, p.here ex (.tup s1 r1)⟩⟩
  | _ => exact p.elim
/-- str(n), str(text) is not here: see part T -/
noncomputable def strD : D → Res D
  | .int i => guard (i.natAbs.log2 < 1920) (.ok (.str (toString i)))
  | _ => .bad
def tyN : D → Option String
  | .non => some "NoneType"
  | .bl _ => some "bool"
  | .int _ => some "int"
  | .str _ => some "str"
  | .lst _ => some "list"
  | .fz _ => some "list"
  | .tup _ => some "tuple"
  | .kt _ => some "tuple"
  | .dk _ _ => some "dict"
  | .dt _ _ => none
  | .obj _ _ _ => none
  | .own _ => none
  | .st _ _ => none
def isiD (T : String) (d : D) : Res D := match tyN d with
  | some n => match kitB n T with
    | some b => .ok (.bl b)
    | none => .bad
  | none => .bad
theorem RpB.ty {K : PySem.W.Frag} {cm : CM} {S H : Hp} {v : V} {d : D} {n : String} (h : RpB K cm S H v d) (ex : Ex S H) (q : tyN d = some n) : TyX K H v (.type n) := by
  cases d with
  | non => cases h.non; cases q; exact .base .non
  | bl b => cases h.bl; cases q; exact .base (.bl b)
  | int i => cases h.int; cases q; exact .base (.int i)
  | str s => cases h.str; cases q; exact .base (.str s)
  | lst ds => obtain ⟨p, xs, rfl, a, r⟩ := h.list ex; cases q; exact .base (.lst a)
  | fz ds =>
    obtain ⟨p, xs, rfl, a, r⟩ := h.fz ex; cases q
    rcases a with (a | ⟨o, a⟩) | ⟨o, its, m, a1, a2, _⟩
    · exact .base (.lst a)
    · exact .base (.frz a)
    · exact .kList a1 a2
  | tup ds =>
    obtain ⟨p, xs, rfl, a, r, s⟩ := h.tup ex; cases q
    rcases a with (a | ⟨o, a⟩) | ⟨o, its, m, a1, a2, _⟩
    · exact .base (.tup a)
    · exact .fTuple a
    · exact .kTuple a1 a2
  | dk ks vs =>
    obtain ⟨p, xs, rfl, a, r⟩ := h.dk ex; cases q
    rcases a with a | ⟨o, a⟩
    · exact .base (.dK a)
    · exact .fDict a
  | dt ks vs => cases q
  | kt ds =>
    obtain ⟨p, xs, rfl, a, r, s⟩ := h.kt ex; cases q
    rcases a with (a | ⟨o, a⟩) | ⟨o, its, m, a1, a2, _⟩
    · exact .base (.tup a)
    · exact .fTuple a
    · exact .kTuple a1 a2
  | obj n ns vs => cases q
  | own k => cases q
  | st k M => cases q
/-- the class's name is a built-in's that stands as it was -/
theorem de_isi {x : Str} {pT : Pos} (T : String) (hm : X.mg "isinstance" = none) (hg : Gl X "isinstance") (gT : Gl X x) (mT : X.mg x = none) (bT : bootBuiltins x = some (.type T)) (ha : PE X e (tR c G f)) (hK : c.K = X.K := by rfl)
    (hn : x ≠ "__name__" := by decide) (hd : (x == ("__debug__" : Str)) = false := by decide)
    (hs1 : starEach [e, .Name x pT] X.env = (false, eval e X.env) :: starEach [.Name x pT] X.env := by rfl) (hs2 : starEach [.Name x pT] X.env = (false, eval (.Name x pT) X.env) :: starEach [] X.env := by rfl) (hpl : (backTo pos (starEach [.Name x pT] X.env)).any (·.1) = false := by rfl) :
    PE X (.Call (.Name "isinstance" p) [e, .Name x pT] [] pos) (tV c G (dUn (isiD T) f)) := by
  have hT : PE X (.Name x pT) (tC (.ty T)) := pe_bltn gT mT bT rfl hn hd
  refine pe_imp (pe_callB call_isi hg hm (by decide +kernel) (pa_cons ha (pa_cons hT pa_nil hs2) hs1) (he := hs1) (hpl := hpl)) fun σ H Q ⟨S0, H0, S, r, ok, p⟩ => rd_seq ok p fun d v S1 H1 w1 o1 m1 p1 => ?_
  unfold isiD at p1
  split at p1
  · rename_i n hn
    split at p1
    · rename_i b hb
      exact ⟨v, .ty T, .type n, .type T, b, rfl, .ty T, by rw [← hK]; exact RpB.ty m1 o1.ex hn, kit_ty hb, p1.go o1.ex _ (.bl _)⟩
    · exact p1.elim
  · exact p1.elim
noncomputable def ixD : D → D → Res D
  | .lst ds, .int i => match atI ds i with
    | some d => .ok d
    | none => .bad
  | .fz ds, .int i => match atI ds i with
    | some d => .ok d
    | none => .bad
  | .tup ds, .int i => match atI ds i with
    | some d => .ok d
    | none => .bad
  | .kt ds, .int i => match atI ds i with
    | some d => .ok d
    | none => .bad
  | .str z, .int i => guard (z.length ≤ sizeLine) (match atI z.cps.toList i with
    | some n => .ok (.str ⟨#[n]⟩)
    | none => .bad)
  | _, _ => .bad
theorem RpA.atI {K : PySem.W.Frag} {cm : CM} {S : Hp} {xs : List V} {ds : List D} {i : Int} {d : D} (h : RpA K cm S xs ds) (q : atI ds i = some d) : ∃ v, L2.atI xs i = some v ∧ Rp K cm S v d := by
  unfold L2.atI at q ⊢
  rw [h.length]
  cases hj : ixN ds.length i with
  | none => rw [hj] at q; cases q
  | some j => rw [hj] at q; exact h.get q
theorem os_ix : OpS c (mV c) (rIx c.K) ixD := by
  intro σ S H x y d e Q ex hx hy p
  unfold ixD at p
  split at p
  · split at p
    · rename_i hd
      obtain ⟨q, xs, rfl, a1, r1⟩ := hx.list ex
      cases hy.int
      obtain ⟨v, h1, h2⟩ := r1.atI hd
      exact .inl ⟨q, xs, _, v, rfl, rfl, .inl (.inl a1), h1, p.here ex h2⟩
    · exact p.elim
  · split at p
    · rename_i hd
      obtain ⟨q, xs, rfl, a1, r1⟩ := hx.fz ex
      cases hy.int
      obtain ⟨v, h1, h2⟩ := r1.atI hd
      exact .inl ⟨q, xs, _, v, rfl, rfl, a1, h1, p.here ex h2⟩
    · exact p.elim
  · split at p
    · rename_i hd
      obtain ⟨q, xs, rfl, a1, r1, s1⟩ := hx.tup ex
      cases hy.int
      obtain ⟨v, h1, h2⟩ := r1.atI hd
      exact .inr (.inl ⟨q, xs, _, v, rfl, rfl, a1, h1, p.here ex h2⟩)
    · exact p.elim
  · split at p
    · rename_i hd
      obtain ⟨q, xs, rfl, a1, r1, s1⟩ := hx.kt ex
      cases hy.int
      obtain ⟨v, h1, h2⟩ := r1.atI hd
      exact .inr (.inl ⟨q, xs, _, v, rfl, rfl, a1, h1, p.here ex h2⟩)
    · exact p.elim
  · obtain ⟨hl, p⟩ := p.gd
    cases hx.str; cases hy.int
    split at p
    · rename_i hd
      exact .inr (.inr ⟨_, _, _, rfl, rfl, hl, hd, p.here ex (.str _)⟩)
    · exact p.elim
  · exact p.elim
theorem de_ix (ha : PE X a (tR c G f1)) (hb : PE X b (tR c G f2)) (hs : PlainIx b) (hK : c.K = X.K := by rfl) : PE X (.Subscript a b pos) (tV c G (dOp ixD f1 f2)) :=
  pe_imp (pe_ix ix_seq ha hb hs) (by rw [← hK]; exact op_rd os_ix)
def cutL {α : Type} (xs : List α) (lo hi : Option Int) : List α := (xs.drop (HT.sIx xs.length 0 lo)).take (HT.sIx xs.length xs.length hi - HT.sIx xs.length 0 lo)
def asI : D → Res Int
  | .int i => .ok i
  | _ => .bad
def dNoP : Rho → Res (Option Int) := fun _ => .ok none
def dPart (f : Rho → Res D) : Rho → Res (Option Int) := fun r => (f r).bind fun d => (asI d).bind fun i => .ok (some i)
variable {fl fh : Rho → Res (Option Int)} {lo hi : Option Expr} {p2 : Pos}
noncomputable def slD (d : D) (lo hi : Option Int) : Res D := match d with
  | .lst ds => .ok (.lst (cutL ds lo hi))
  | .fz ds => .ok (.lst (cutL ds lo hi))
  | .tup ds => .ok (.tup (cutL ds lo hi))
  | .str z => guard (z.length ≤ sizeLine) (.ok (.str (cutS z lo hi)))
  | _ => .bad
def dSl (g : D → Option Int → Option Int → Res D) (f : Rho → Res D) (fl fh : Rho → Res (Option Int)) : Rho → Res D := fun r => (f r).bind fun d => (fl r).bind fun l => (fh r).bind fun h => g d l h
/-- a slice of a list, the new list one's own -/
def slL (d : D) (lo hi : Option Int) : Res D := match d with
  | .lst ds => .ok (.lst (cutL ds lo hi))
  | .fz ds => .ok (.lst (cutL ds lo hi))
  | _ => .bad
end
end Dx
end S_DxD
section S_DxE
set_option Elab.async false
set_option linter.all false
set_option maxRecDepth 100000
set_option maxHeartbeats 2000000
namespace Dx
open PySem L2
/-- what is wanted behind a statement -/
def PostS (c : Cf) (S0 H0 : Hp) (L G' : List Ow) (o : SR) (E : Ends) : Prop :=
  match o with
  | .nx r => ∀ σ' S' H', EnvOk c S0 H0 G' S' H' σ' r → E.nx σ' H'
  | .rt d => if c.rm then ∀ p ho S' H', Fwd S0 H0 S' H' → H0 p = none → S' p = none → H' p = some ho → RpO c.K c.cm S' ho d → E.rt (.ref p) H'
      else ∀ v S' H', Fwd S0 H0 S' H' → Rp c.K c.cm S' v d → E.rt v H'
  | .bk r => ∀ σ' S' H', EnvOk c S0 H0 L S' H' σ' r → E.bk σ' H'
  | .ct r => ∀ σ' S' H', EnvOk c S0 H0 L S' H' σ' r → E.ct σ' H'
  | .er r n ns vs => ∀ C dd σ' S' H' fs, c.cm n = some C → Fwd S0 H0 S' H' → (∀ g, c.ge = some g → EnvOk c S0 H0 g S' H' σ' r) → S' dd = some (.xd fs) → ns = fs.map (·.1) → RpA c.K c.cm S' (fs.map (·.2)) vs → c.W (.ref C) (some dd) σ' H'
  | .bad => False
def sD (c : Cf) (L G G' : List Ow) (F : Rho → SR) : TS := fun E σ H => ∃ S0 H0 S r, EnvOk c S0 H0 G S H σ r ∧ PostS c S0 H0 L G' (F r) E
def liftS {α : Type} (r : Rho) (x : Res α) (k : α → SR) : SR := match x with
  | .ok a => k a
  | .err n ns vs => .er r n ns vs
  | .bad => .bad
/-- where a try's clauses ask for the slots, the kinds are the ones told -/
def Gok (c : Cf) (G : List Ow) : Prop := ∀ g, c.ge = some g → g = G
section
variable {X : Cx} {c : Cf} {L G G' G'' : List Ow} {σ : St} {S0 H0 S H : Hp} {r : Rho} {α β : Type} {E : Ends}
theorem st_seq {f : Rho → Res α} {R : Md β α} (hg : Gok c G) (e : EnvOk c S0 H0 G S H σ r) {k : α → SR} (p : PostS c S0 H0 L G' (liftS r (f r) k) E) {Q : β → Hp → Prop}
    (h : ∀ a b S' H', Fwd S H S' H' → EnvOk c S0 H0 G S' H' σ r → R H S' H' b a → PostS c S0 H0 L G' (k a) E → Q b H') : rd c G f R σ H Q := by
  refine ⟨S0, H0, S, r, e, ?_⟩
  cases hf : f r with
  | ok a => rw [hf] at p; exact fun S' H' fw b hb => h a b S' H' fw (e.go fw) hb p
  | err n ns vs =>
    rw [hf] at p
    exact fun C dd S' H' fs h1 fw h2 h3 h4 => p C dd σ S' H' fs h1 (e.fwd.trans fw) (fun g q => by rw [hg g q]; exact e.go fw) h2 h3 h4
  | bad => rw [hf] at p; exact p.elim
/-- the stable part as the new base -/
theorem EnvOk.rebase (e : EnvOk c S0 H0 G S H σ r) : EnvOk c S H0 G S H σ r := ⟨⟨Ex.refl, e.fwd.h, e.fwd.sub, fun a o h n => by rw [n] at h; cases h⟩, e.len, e.slot, e.sep, e.sto⟩
theorem Fwd.unbase {S' H' : Hp} (f : Fwd S0 H0 S H) (g : Fwd S H0 S' H') : Fwd S0 H0 S' H' := ⟨f.s.trans g.s, g.h, g.sub, fun a o h n => by
  cases q : S a with
  | some u => exact f.new a u q n
  | none => exact g.new a o h q⟩
theorem EnvOk.unbase {S' H' : Hp} {σ' : St} {r' : Rho} (f : Fwd S0 H0 S H) (e : EnvOk c S H0 G' S' H' σ' r') : EnvOk c S0 H0 G' S' H' σ' r' := ⟨f.unbase e.fwd, e.len, e.slot, e.sep, e.sto⟩
theorem PostS.rebase {o : SR} (f : Fwd S0 H0 S H) (p : PostS c S0 H0 L G' o E) : PostS c S H0 L G' o E := by
  cases o with
  | nx r => exact fun σ' S' H' e => p σ' S' H' (e.unbase f)
  | rt d =>
    unfold PostS at p ⊢
    dsimp only at p ⊢
    split
    · rename_i h
      rw [if_pos h] at p
      exact fun q ho S' H' w => p q ho S' H' (f.unbase w)
    · rename_i h
      rw [if_neg h] at p
      exact fun v S' H' w => p v S' H' (f.unbase w)
  | bk r => exact fun σ' S' H' e => p σ' S' H' (e.unbase f)
  | ct r => exact fun σ' S' H' e => p σ' S' H' (e.unbase f)
  | er r n ns vs => exact fun C dd σ' S' H' fs h1 w h2 => p C dd σ' S' H' fs h1 (f.unbase w) fun g q => (h2 g q).unbase f
  | bad => exact p
def seqF (F K : Rho → SR) : Rho → SR := fun r => match F r with
  | .nx r' => K r'
  | o => o
theorem ds_nil : PSs X [] (sD c L G G .nx) := pss_imp pss_nil fun E σ H ⟨S0, H0, S, r, ok, p⟩ => p σ S H ok
theorem ds_cons {st : Stmt} {rest : List Stmt} {F K : Rho → SR} (h1 : PS X st (sD c L G G' F)) (h2 : PSs X rest (sD c L G' G'' K)) : PSs X (st :: rest) (sD c L G G'' (seqF F K)) := pss_imp (pss_cons h1 h2) fun E σ H ⟨S0, H0, S, r, ok, p⟩ => by
  refine ⟨S0, H0, S, r, ok, ?_⟩
  unfold seqF at p
  cases hF : F r with
  | nx r' => rw [hF] at p; exact fun σ' S' H' e => ⟨S0, H0, S', r', e, p⟩
  | rt d => rw [hF] at p; exact p
  | bk r' => rw [hF] at p; exact p
  | ct r' => rw [hF] at p; exact p
  | er r' n ns vs => rw [hF] at p; exact p
  | bad => rw [hF] at p; exact p.elim
theorem ds_one {st : Stmt} {F : Rho → SR} (h1 : PS X st (sD c L G G' F)) : PSs X [st] (sD c L G G' F) := pss_one h1
/-- an own object becomes a value, ahead of a block; behind one -/
theorem EnvOk.pubL (e : EnvOk c S0 H0 G S H σ r) (i : Nat) (hk : kd G i = .o ∨ kd G i = .v) : Lo (fun H => ∃ S', EnvOk c S0 H0 (G.set i .v) S' H σ r) H := by
  by_cases h : kd G i = .o ∧ ∃ d, r[i]? = some (some d) ∧ isDct d = true
  · obtain ⟨k, d, h1, h2⟩ := h
    exact .inr (e.pubD i k h1 h2)
  · by_cases k : kd G i = .o
    · exact .inl (e.pub i hk fun d hd => by
        cases q : isDct d with
        | false => rfl
        | true => exact (h ⟨k, d, hd, q⟩).elim)
    · have k' : kd G i = .v := hk.resolve_left k
      have all : ∀ j, kd (G.set i .v) j = kd G j := fun j => by
        by_cases ne : i = j
        · subst ne; rw [kd_set_self, k']
        · exact kd_set_ne ne
      exact .inl ⟨S, e.fwd, e.len, fun j b hb => by rw [all]; exact e.slot j b hb, fun j l b b' q hj hk kj kk sj sk => e.sep j l b b' q hj hk ((all j) ▸ kj) ((all l) ▸ kk) sj sk, e.sto_un i hk⟩
theorem Lo.imp {Q R : Hp → Prop} {H : Hp} (h : Lo Q H) (k : ∀ H, Q H → R H) : Lo R H := by
  rcases h with h | ⟨p, u, h1, h2, h⟩
  · exact .inl (k _ h)
  · exact .inr ⟨p, u, h1, h2, fun w => k _ (h w)⟩
theorem ds_pub {sts : List Stmt} {F : Rho → SR} (i : Nat) (h : PSs X sts (sD c L (G.set i .v) G' F)) (hk : kd G i = .o ∨ kd G i = .v) : PSs X sts (sD c L G G' F) := pss_lock h fun E σ H ⟨S0, H0, S, r, ok, p⟩ =>
  (ok.pubL i hk).imp fun H' ⟨S', ok'⟩ => ⟨S0, H0, S', r, ok', p⟩
variable {e : Expr} {pos : Pos} {f : Rho → Res D}
def setF (i : Nat) (f : Rho → Res D) : Rho → SR := fun r => liftS r (f r) fun d => .nx (r.set i (some d))
/-- x = e -/
theorem ds_set (i : Nat) {x : Str} {pos' : Pos} (hg : Gok c G) (hN : X.N.Nodup) (hi : X.N[i]? = some x) (hx : Loc X.env.scope x) (he : PE X e (tV c G f)) (hs : swapsWith e (some (.Name x pos')) pos.line X.env = pure false := by rfl)
    (hf : X.fn x = true ∨ X.env.scope.names.lookup x = some .local := by first | exact .inl rfl | exact .inr rfl | assumption) : PS X (.Assign [.Name x pos'] e pos) (sD c L G (G.set i .v) (setF i f)) :=
  ps_imp (ps_set hN hi hx he hs hf) fun E σ H ⟨S0, H0, S, r, ok, p⟩ => st_seq hg ok p fun d v S1 H1 w1 o1 m1 p1 => p1 _ S1 H1 (o1.setV i m1)
/-- x = e, a new object of one's own -/
theorem ds_setO (i : Nat) {x : Str} {pos' : Pos} (hg : Gok c G) (hG : i < G.length) (hN : X.N.Nodup) (hi : X.N[i]? = some x) (hx : Loc X.env.scope x) (he : PE X e (tO c G f)) (hs : swapsWith e (some (.Name x pos')) pos.line X.env = pure false := by rfl)
    (hf : X.fn x = true ∨ X.env.scope.names.lookup x = some .local := by first | exact .inl rfl | exact .inr rfl | assumption) : PS X (.Assign [.Name x pos'] e pos) (sD c L G (G.set i .o) (setF i f)) :=
  ps_imp (ps_set hN hi hx he hs hf) fun E σ H ⟨S0, H0, S, r, ok, p⟩ => st_seq hg ok p fun d v S1 H1 w1 o1 m1 p1 => by
    obtain ⟨q, ho, rfl, n, ns, hp, h⟩ := m1
    exact p1 _ S1 H1 (ok.setO w1 i hG n ns hp h)
def retF (f : Rho → Res D) : Rho → SR := fun r => liftS r (f r) .rt
theorem ds_ret (hg : Gok c G) (hr : c.rm = false) (he : PE X e (tV c G f)) : PS X (.Return (some e) pos) (sD c L G G' (retF f)) := ps_imp (ps_ret he) fun E σ H ⟨S0, H0, S, r, ok, p⟩ => st_seq hg ok p fun d v S1 H1 w1 o1 m1 p1 => by
  unfold PostS at p1
  rw [hr] at p1
  exact p1 v S1 H1 o1.fwd m1
def dropF {α : Type} (f : Rho → Res α) : Rho → SR := fun r => liftS r (f r) fun _ => .nx r
theorem ds_cont : PS X (.Continue pos) (sD c G G G' .ct) := ps_imp ps_continue fun E σ H ⟨S0, H0, S, r, ok, p⟩ => p σ S H ok
def ifF (t : Rho → Res Bool) (F K : Rho → SR) : Rho → SR := fun r => liftS r (t r) fun b => if b = true then F r else K r
theorem ds_if {cnd : Expr} {sa sb : List Stmt} {t : Rho → Res Bool} {F K : Rho → SR} (hg : Gok c G) (hc : PT X cnd (tT c G t)) (ha : PSs X sa (sD c L G G' F)) (hb : PSs X sb (sD c L G G' K)) : PS X (.If cnd sa sb pos) (sD c L G G' (ifF t F K)) :=
  ps_imp (ps_if hc ha hb) fun E σ H ⟨S0, H0, S, r, ok, p⟩ => st_seq hg ok p fun x v S1 H1 w1 o1 m1 p1 => by
    rw [show v = x from m1]
    cases x with
    | true => exact ⟨S0, H0, S1, r, o1, p1⟩
    | false => exact ⟨S0, H0, S1, r, o1, p1⟩
variable {a b : Expr} {f1 f2 : Rho → Res D} {apos cpos p' : Pos}
/-- the own list in slot i -/
def ownL (i : Nat) (r : Rho) : Res (List D) := match r[i]? with
  | some (some (.lst ds)) => .ok ds
  | _ => .bad
theorem of_ownL {i : Nat} {k : List D → SR} (e : EnvOk c S0 H0 G S H σ r) (kd' : kd G i = .o) (p : PostS c S0 H0 L G' (liftS r (ownL i r) k) E) :
    ∃ q xs ds, r[i]? = some (some (.lst ds)) ∧ σ[i]? = some (some (.ref q)) ∧ H q = some (.lst xs) ∧ RpA c.K c.cm S xs ds ∧ PostS c S0 H0 L G' (k ds) E := by
  unfold ownL at p
  split at p
  · rename_i ds hd
    obtain ⟨q, ho, s1, s2, s3, s4, s5⟩ := e.own kd' hd
    cases s5 with
    | lst r1 => exact ⟨q, _, ds, hd, s1, s2, r1, p⟩
  · exact p.elim
noncomputable def guardS (p : Prop) (x : SR) : SR := @ite _ p (Classical.propDecidable p) x .bad
theorem guardS_pos {p : Prop} {x : SR} (h : p) : guardS p x = x := by unfold guardS; exact if_pos h
noncomputable def appF (i : Nat) (f : Rho → Res D) : Rho → SR := fun r => liftS r (ownL i r) fun ds => liftS r (f r) fun d => guardS (ds.length < sizeLine) (.nx (r.set i (some (.lst (ds ++ [d])))))
theorem PostS.ite {p : Prop} [Decidable p] {x : SR} (h : PostS c S0 H0 L G' (if p then x else .bad) E) : p ∧ PostS c S0 H0 L G' x E := by
  by_cases hp : p
  · rw [if_pos hp] at h; exact ⟨hp, h⟩
  · rw [if_neg hp] at h; exact h.elim
theorem PostS.gd {p : Prop} {x : SR} (h : PostS c S0 H0 L G' (guardS p x) E) : p ∧ PostS c S0 H0 L G' x E := by
  by_cases hp : p
  · rw [guardS_pos hp] at h; exact ⟨hp, h⟩
  · unfold guardS at h; rw [if_neg hp] at h; exact h.elim
theorem pe_app {o : Expr} {to te : TE} (ho : PE X o to) (he : PE X e te) (hbase : attributeBase o "append" X.env (eval o X.env) = eval o X.env := by rfl)
    (hfew : ((backTo cpos (starEach [e] X.env)).all (fun x => !x.1) && (backToKw cpos (keywordEach [] X.env)).all (fun x => x.1.isSome) && decide ([e].length + ([] : List Keyword).length + (if ([] : List Keyword).isEmpty then 0 else 1) < 30)) = true := by rfl)
    (hline : (apos.endLine == cpos.line) = true := by rfl) (hs : starEach [e] X.env = (false, eval e X.env) :: starEach [] X.env := by rfl) :
    PE X (.Call (.Attribute o "append" apos) [e] [] cpos) (tBM X.K "list" rAppend to (tCons te tNil)) :=
  pe_bm PySem.F.plainAttrs_list PySem.F.slot_list_append PySem.F.type_list_append mt_append ho (pa_cons he pa_nil hs) hbase hfew hline hs rfl
theorem ds_app (i : Nat) {x : Str} {pn : Pos} (hg : Gok c G) (k : kd G i = .o) (ho : PE X (.Name x pn) (tVar i)) (he : PE X e (tV c G f)) (hw : swapsWith (.Call (.Attribute (.Name x pn) "append" apos) [e] [] cpos) none pos.line X.env = pure false := by rfl)
    (hbase : attributeBase (.Name x pn) "append" X.env (eval (.Name x pn) X.env) = eval (.Name x pn) X.env := by rfl)
    (hfew : ((backTo cpos (starEach [e] X.env)).all (fun x => !x.1) && (backToKw cpos (keywordEach [] X.env)).all (fun x => x.1.isSome) && decide ([e].length + ([] : List Keyword).length + (if ([] : List Keyword).isEmpty then 0 else 1) < 30)) = true := by rfl)
    (hline : (apos.endLine == cpos.line) = true := by rfl) (hs : starEach [e] X.env = (false, eval e X.env) :: starEach [] X.env := by rfl) :
    PS X (.Expr (.Call (.Attribute (.Name x pn) "append" apos) [e] [] cpos) pos) (sD c L G G (appF i f)) :=
  ps_imp (ps_expr (pe_app ho he hbase hfew hline hs) hw) fun E σ H ⟨S0, H0, S, r, ok, p⟩ => by
    obtain ⟨q, xs, ds, hd, z1, z2, z3, p1⟩ := of_ownL ok k p
    refine ⟨.ref q, z1, .inl ⟨rfl, xs, .inl (.inl z2)⟩, st_seq hg ok p1 fun d v S1 H1 w1 o1 m1 p2 => ?_⟩
    obtain ⟨hl, p2⟩ := p2.gd
    exact ⟨q, xs, v, rfl, rfl, w1.h _ _ z2, by rw [z3.length]; exact hl, p2 σ S1 _ (o1.mut k hd z1 (.lst ((z3.mono w1.s).app (.one m1))))⟩
/-- what is wanted behind a target -/
def PostR (c : Cf) (S0 H0 S H : Hp) (G' : List Ow) (σ : St) (ks : List Nat) (x : Res Rho) (Q : St → Hp → Prop) : Prop := match x with
  | .ok r' => ∀ σ', wipe σ' ks = wipe σ ks → EnvOk c S0 H0 G' S H σ' r' → Q σ' H
  | _ => False
theorem wipe_get (σ : St) : ∀ (vs : List Nat) (i : Nat), (wipe σ vs)[i]? = if i ∈ vs then σ[i]?.map (fun _ => none) else σ[i]?
  | [], i => by simp [wipe]
  | v :: vs, i => by
    show ((wipe σ vs).set v none)[i]? = _
    by_cases h : v = i
    · subst h
      rw [List.getElem?_set, if_pos rfl, wipe_length, if_pos (List.mem_cons_self)]
      split
      · rename_i hl; simp [List.getElem?_eq_getElem hl]
      · rename_i hl; rw [List.getElem?_eq_none (by omega)]; rfl
    · rw [List.getElem?_set_ne h, wipe_get σ vs i]
      have : (i ∈ v :: vs) ↔ i ∈ vs := by simp [List.mem_cons, Ne.symm h]
      simp only [this]
theorem wipe_set {σ : St} {i : Nat} {x : Option V} : wipe (σ.set i x) [i] = wipe σ [i] := by
  show (σ.set i x).set i none = σ.set i none
  exact List.set_set _
theorem wipe_len {σ σ' : St} {ks : List Nat} (h : wipe σ' ks = wipe σ ks) : σ'.length = σ.length := by
  have := congrArg List.length h
  rw [wipe_length, wipe_length] at this
  exact this
theorem wipe_get_eq {σ σ' : St} {ks : List Nat} (h : wipe σ' ks = wipe σ ks) {i : Nat} (hi : i ∉ ks) : σ'[i]? = σ[i]? := by
  have := congrArg (fun l : St => l[i]?) h
  simp only [wipe_get, if_neg hi] at this
  exact this
theorem wipe_app {σ σ1 σ2 : St} {k1 k2 : List Nat} (h1 : wipe σ1 k1 = wipe σ k1) (h2 : wipe σ2 k2 = wipe σ1 k2) : wipe σ2 (k1 ++ k2) = wipe σ (k1 ++ k2) := by
  have l1 := wipe_len h1
  have l2 := wipe_len h2
  apply List.ext_getElem?
  intro i
  rw [wipe_get, wipe_get]
  by_cases hi : i ∈ k1 ++ k2
  · rw [if_pos hi, if_pos hi]
    by_cases hl : i < σ.length
    · rw [List.getElem?_eq_getElem hl, List.getElem?_eq_getElem (show i < σ2.length by omega)]; rfl
    · rw [List.getElem?_eq_none (by omega), List.getElem?_eq_none (by omega)]
  · rw [if_neg hi, if_neg hi]
    have a1 : i ∉ k1 := fun z => hi (List.mem_append_left _ z)
    have a2 : i ∉ k2 := fun z => hi (List.mem_append_right _ z)
    rw [wipe_get_eq h2 a2, wipe_get_eq h1 a1]
/-- a target by data -/
def gD (c : Cf) (G G' : List Ow) (ks : List Nat) (t : D → Rho → Res Rho) : TG := fun v σ H Q => ∃ S0 H0 S r d, EnvOk c S0 H0 G S H σ r ∧ Rp c.K c.cm S v d ∧ PostR c S0 H0 S H G' σ ks (t d r) Q
theorem pg_imp {tg : Expr} {t t' : TG} (h : PG X tg t) (k : ∀ v σ H Q, t' v σ H Q → t v σ H Q) : PG X tg t' := ⟨fun pins s σ H v u Q I r q => h.run pins s σ H v u Q I r (k v σ H Q q)⟩
theorem pgs_imp {tg : List Expr} {t t' : TGs} (h : PGs X tg t) (k : ∀ v σ H Q, t' v σ H Q → t v σ H Q) : PGs X tg t' := ⟨fun pins s σ H v u Q I r q => h.run pins s σ H v u Q I r (k v σ H Q q)⟩
def tgN (i : Nat) : D → Rho → Res Rho := fun d r => .ok (r.set i (some d))
theorem dg_name (i : Nat) {x : Str} (hN : X.N.Nodup) (hi : X.N[i]? = some x) (hx : Loc X.env.scope x) (hf : X.fn x = true ∨ X.env.scope.names.lookup x = some .local := by first | exact .inl rfl | exact .inr rfl | assumption) :
    PG X (.Name x pos) (gD c G (G.set i .v) [i] (tgN i)) := pg_imp (pg_name hN hi hx hf) fun v σ H Q ⟨S0, H0, S, r, d, ok, hv, p⟩ => p _ wipe_set (ok.setV i hv)
def gDs (c : Cf) (G G' : List Ow) (ks : List Nat) (t : List D → Rho → Res Rho) : TGs := fun vs σ H Q => ∃ S0 H0 S r ds, EnvOk c S0 H0 G S H σ r ∧ RpA c.K c.cm S vs ds ∧ PostR c S0 H0 S H G' σ ks (t ds r) Q
def tgNil : List D → Rho → Res Rho
  | [], r => .ok r
  | _ :: _, _ => .bad
def tgCons (t : D → Rho → Res Rho) (u : List D → Rho → Res Rho) : List D → Rho → Res Rho
  | [], _ => .bad
  | d :: ds, r => (t d r).bind (u ds)
theorem dg_nil : PGs X [] (gDs c G G [] tgNil) := pgs_imp pgs_nil fun vs σ H Q ⟨S0, H0, S, r, ds, ok, hv, p⟩ => by
  cases hv with
  | nil => exact ⟨rfl, p σ rfl ok⟩
  | cons _ _ => exact p.elim
theorem dg_cons {es : List Expr} {t : D → Rho → Res Rho} {u : List D → Rho → Res Rho} {k1 k2 : List Nat} (h1 : PG X e (gD c G G' k1 t)) (h2 : PGs X es (gDs c G' G'' k2 u)) (hs : (assignEach (e :: es) X.env).map (·.2) = assign e X.env :: (assignEach es X.env).map (·.2) := by rfl) :
    PGs X (e :: es) (gDs c G G'' (k1 ++ k2) (tgCons t u)) := pgs_imp (pgs_cons h1 h2 hs) fun vs σ H Q ⟨S0, H0, S, r, ds, ok, hv, p⟩ => by
  cases hv with
  | nil => exact p.elim
  | @cons v vs d ds hv hr =>
    refine ⟨v, vs, rfl, S0, H0, S, r, d, ok, hv, ?_⟩
    have p : PostR c S0 H0 S H G'' σ (k1 ++ k2) ((t d r).bind (u ds)) Q := p
    cases ht : t d r with
    | ok r1 =>
      rw [ht] at p
      intro σ1 z1 ok1
      refine ⟨S0, H0, S, r1, ds, ok1, hr, ?_⟩
      have p : PostR c S0 H0 S H G'' σ (k1 ++ k2) (u ds r1) Q := p
      cases hu : u ds r1 with
      | ok r2 => rw [hu] at p; exact fun σ2 z2 ok2 => p σ2 (wipe_app z1 z2) ok2
      | err _ _ _ => rw [hu] at p; exact p.elim
      | bad => rw [hu] at p; exact p.elim
    | err _ _ _ => rw [ht] at p; exact p.elim
    | bad => rw [ht] at p; exact p.elim
def tgT (n : Nat) (u : List D → Rho → Res Rho) : D → Rho → Res Rho := fun d r => match d with
  | .tup ds => if ds.length = n then u ds r else .bad
  | .kt ds => if ds.length = n then u ds r else .bad
  | _ => .bad
theorem dg_tup {es : List Expr} {k n : Nat} {ks : List Nat} {u : List D → Rho → Res Rho} (hc : X.calm = true) (h : PGs X es (gDs c G G' ks u)) (hn : (assignEach es X.env).length = n := by rfl) (hst : (assignEach es X.env).findIdx? (·.1) = none := by rfl) (hK : c.K = X.K := by rfl) :
    PG X (.Tuple es k pos) (gD c G G' ks (tgT n u)) := pg_imp (pg_tup hc h hn hst) fun v σ H Q ⟨S0, H0, S, r, d, ok, hv, p⟩ => by
  unfold tgT at p
  cases hv with
  | @kt a xs ds q rr =>
    dsimp only at p
    by_cases hl : ds.length = n
    · rw [if_pos hl] at p
      exact ⟨a, xs, rfl, by rw [← hK]; exact ok.ex.t q, by rw [rr.length]; exact hl, S0, H0, S, r, ds, ok, rr, p⟩
    · rw [if_neg hl] at p; exact p.elim
  | @tup a xs ds q rr =>
    dsimp only at p
    by_cases hl : ds.length = n
    · rw [if_pos hl] at p
      exact ⟨a, xs, rfl, by rw [← hK]; exact .inl (.inl (ok.ex _ _ q)), by rw [rr.length]; exact hl, S0, H0, S, r, ds, ok, rr, p⟩
    · rw [if_neg hl] at p; exact p.elim
  | _ => exact p.elim
def asgF (t : D → Rho → Res Rho) (f : Rho → Res D) : Rho → SR := fun r => liftS r (f r) fun d => match t d r with
  | .ok r' => .nx r'
  | _ => .bad
/-- target = e -/
theorem ds_asg {tg : Expr} {ks : List Nat} {t : D → Rho → Res Rho} (hg : Gok c G) (he : PE X e (tV c G f)) (ht : PG X tg (gD c G G' ks t)) (hs : swapsWithSole [tg] e pos.line X.env = pure false := by rfl) (hw : swappedStores [tg] e X.env = pure none := by rfl)
    (h1 : (assignEach [tg] X.env).map (·.2) = [assign tg X.env] := by rfl) : PS X (.Assign [tg] e pos) (sD c L G G' (asgF t f)) := ps_imp (ps_asg he ht hs hw h1) fun E σ H ⟨S0, H0, S, r, ok, p⟩ => st_seq hg ok p fun d v S1 H1 w1 o1 m1 p1 => by
  refine ⟨S0, H0, S1, r, d, o1, m1, ?_⟩
  cases ht : t d r with
  | ok r' => rw [ht] at p1; exact fun σ' _ ok' => p1 σ' S1 H1 ok'
  | err _ _ _ => rw [ht] at p1; exact p1.elim
  | bad => rw [ht] at p1; exact p1.elim
/-- x, y = a, b -/
def parF (i j : Nat) (f1 f2 : Rho → Res D) : Rho → SR := fun r => liftS r (dCons f1 (dCons f2 dNil) r) fun ds => match ds with
  | [d, e] => .nx ((r.set i (some d)).set j (some e))
  | _ => .bad
def YOk (c : Cf) (S' : Hp) (ds : List D) (Y : Nat → Hp → V → Hp → Prop) : Prop := ∀ i S1 H1 x H2, i < ds.length → Ex S' S1 → Ex S1 H1 → Y i H1 x H2 → ∃ S2 d, Fwd S1 H1 S2 H2 ∧ ds[i]? = some d ∧ Rp c.K c.cm S2 x d
/-- the iterator J gives the data ds -/
def Gives (c : Cf) (H0 S' : Hp) (J : It) (ds : List D) : Prop := ∃ Gd Y, Walk J ds.length Gd Y ∧ (∀ S'' H'', Ex S' S'' → Ex S'' H'' → Ex H0 H'' → Gd H'') ∧ YOk c S' ds Y
def iD (c : Cf) (G : List Ow) (f : Rho → Res (List D)) : TI := fun σ H R => ∃ S0 H0 S r, EnvOk c S0 H0 G S H σ r ∧ PostG c σ S H (f r) fun ds S' H' => ∀ J, Gives c H0 S' J ds → R J H'
theorem pi_imp {tg it : Expr} {t t' : TI} (h : PI X tg it t) (k : ∀ σ H R, t' σ H R → t σ H R) : PI X tg it t' := ⟨fun pins s σ H R I q => h.run pins s σ H R I (k σ H R q)⟩
def dIt (g : D → Res (List D)) (f : Rho → Res D) : Rho → Res (List D) := fun r => (f r).bind g
theorem gives_list {c : Cf} {H0 S : Hp} {q : Addr} {xs : List V} {ds : List D} (h : SqL c.K S q xs) (rr : RpA c.K c.cm S xs ds) : Gives c H0 S (Itl c.K q) ds := by
  refine ⟨_, _, by rw [← rr.length]; exact walk_list (K := c.K) (a := q) (xs := xs), fun S'' H'' e1 e2 _ => e2.l (e1.l h), fun i S1 H1 x H2 hi e1 e2 y => ?_⟩
  obtain ⟨rfl, hx⟩ := y
  obtain ⟨d, h1, h2⟩ := rr.getV hx
  exact ⟨S1, d, Fwd.refl e2, h1, h2.mono e1⟩
theorem gives_tup {c : Cf} {H0 S : Hp} {q : Addr} {xs : List V} {ds : List D} (h : SqT c.K S q xs) (rr : RpA c.K c.cm S xs ds) : Gives c H0 S (Itt c.K q) ds := by
  refine ⟨_, _, by rw [← rr.length]; exact walk_tup (K := c.K) (a := q) (xs := xs), fun S'' H'' e1 e2 _ => e2.t (e1.t h), fun i S1 H1 x H2 hi e1 e2 y => ?_⟩
  obtain ⟨rfl, hx⟩ := y
  obtain ⟨d, h1, h2⟩ := rr.getV hx
  exact ⟨S1, d, Fwd.refl e2, h1, h2.mono e1⟩
variable {tg : Expr}
theorem di_list (he : PE X e (tV c G f)) (hK : c.K = X.K := by rfl) : PI X tg e (iD c G (dIt itemsL f)) := pi_imp (pi_list he) fun σ H R ⟨S0, H0, S, r, ok, p⟩ => rd_seq ok p fun d v S1 H1 w1 o1 m1 p1 => by
  rw [← hK]
  cases d with
  | lst ds =>
    cases m1 with | @lst q xs _ h rr =>
    exact ⟨q, rfl, ⟨xs, .inl (.inl (o1.ex _ _ h))⟩, p1.go o1.ex _ (gives_list (.inl (.inl h)) rr)⟩
  | fz ds =>
    cases m1 with | @fz q xs _ h rr =>
    exact ⟨q, rfl, ⟨xs, o1.ex.l h⟩, p1.go o1.ex _ (gives_list h rr)⟩
  | _ => exact p1.elim
theorem di_tup (he : PE X e (tV c G f)) (hK : c.K = X.K := by rfl) : PI X tg e (iD c G (dIt itemsT f)) := pi_imp (pi_tup he) fun σ H R ⟨S0, H0, S, r, ok, p⟩ => rd_seq ok p fun d v S1 H1 w1 o1 m1 p1 => by
  rw [← hK]
  cases d with
  | tup ds =>
    cases m1 with | @tup q xs _ h rr =>
    exact ⟨q, rfl, ⟨xs, .inl (.inl (o1.ex _ _ h))⟩, p1.go o1.ex _ (gives_tup (.inl (.inl h)) rr)⟩
  | _ => exact p1.elim
/-- range(n), range(a, b) -/
def rngL (lo : Int) (n : Nat) : List D := (List.range n).map fun (i : Nat) => D.int (lo + (i : Int))
theorem gives_rng {c : Cf} {H0 S : Hp} {lo : Int} {n : Nat} : Gives c H0 S (Itr lo n) (rngL lo n) := by
  have hl : (rngL lo n).length = n := by unfold rngL; simp
  refine ⟨_, _, by rw [hl]; exact walk_range, fun _ _ _ _ _ => trivial, fun i S1 H1 x H2 hi e1 e2 y => ?_⟩
  obtain ⟨rfl, rfl⟩ := y
  rw [hl] at hi
  exact ⟨S1, .int (lo + (i : Int)), Fwd.refl e2, by unfold rngL; simp [hi], .int _⟩
noncomputable def rng1 : List D → Res (List D)
  | [.int n] => guard (-4611686018427387904 ≤ n ∧ n < 4611686018427387904) (.ok (rngL 0 n.toNat))
  | _ => .bad
def dIts (g : List D → Res (List D)) (fs : Rho → Res (List D)) : Rho → Res (List D) := fun r => (fs r).bind g
theorem di_rng1 {p : Pos} {fs : Rho → Res (List D)} (hm : X.mg "range" = none) (hg : Gl X "range") (ha : PA X [a] (tAs c G fs)) (hs : starEach [a] X.env = [(false, eval a X.env)] := by rfl) : PI X tg (.Call (.Name "range" p) [a] [] pos) (iD c G (dIts rng1 fs)) :=
  pi_imp (pi_range1 hg hm ha hs) fun σ H R ⟨S0, H0, S, r, ok, p⟩ => rd_seq ok p fun ds vs S1 H1 w1 o1 m1 p1 => by
    unfold rng1 at p1
    split at p1
    · obtain ⟨hl, p1⟩ := p1.gd
      match vs, m1 with
      | _, .cons h .nil => cases h; exact ⟨_, rfl, by have := hl.1; omega, by have := hl.2; omega, p1.go o1.ex _ gives_rng⟩
    · exact p1.elim
/-- the signs of a text -/
def signs (z : Str) : List D := z.cps.toList.map fun n => .str ⟨#[n]⟩
def itemsS : D → Res (List D)
  | .str z => .ok (signs z)
  | _ => .bad
theorem di_str (he : PE X e (tV c G f)) : PI X tg e (iD c G (dIt itemsS f)) := pi_imp (pi_str he) fun σ H R ⟨S0, H0, S, r, ok, p⟩ => rd_seq ok p fun d v S1 H1 w1 o1 m1 p1 => by
  cases d with
  | str z =>
    cases m1
    have hl : (signs z).length = z.cps.size := by unfold signs; simp
    refine ⟨z, rfl, p1.go o1.ex _ ⟨_, _, by rw [hl]; exact walk_str (z := z), fun _ _ _ _ _ => trivial, fun i S2 H2 x H3 hi e1 e2 y => ?_⟩⟩
    obtain ⟨rfl, n, hn, rfl⟩ := y
    refine ⟨S2, .str ⟨#[n]⟩, Fwd.refl e2, ?_, .str _⟩
    unfold signs
    rw [List.getElem?_map, Array.getElem?_toList, hn]; rfl
  | _ => exact p1.elim
def loopF (t : D → Rho → Res Rho) (F : Rho → SR) : List D → Rho → SR
  | [], r => .nx r
  | d :: ds, r => match t d r with
    | .ok r1 => match F r1 with
      | .nx r2 => loopF t F ds r2
      | .ct r2 => loopF t F ds r2
      | .bk r2 => .nx r2
      | o => o
    | _ => .bad
def forF (its : Rho → Res (List D)) (t : D → Rho → Res Rho) (F : Rho → SR) : Rho → SR := fun r => liftS r (its r) fun ds => loopF t F ds r
theorem ds_for {iter : Expr} {body : List Stmt} {its : Rho → Res (List D)} {ks : List Nat} {t : D → Rho → Res Rho} {F : Rho → SR} (hg : Gok c G) (hp : PassesOwn (model X.prog X.w) X.A X.env X.xe) (hc : X.calm = true) (hi : PI X tg iter (iD c G its)) (ht : PG X tg (gD c G G' ks t)) (hb : PSs X body (sD c G G' G F))
    (hs : ∀ x, foldedSetIterable iter X.env x = pure x := by intro _; rfl) : PS X (.For tg iter body [] pos) (sD c L G G (forF its t F)) :=
  ps_imp (ps_for hp hc hi ht hb hs) fun E σ H ⟨S0, H0, S, r, ok, p⟩ => by
    refine ⟨S0, H0, S, r, ok, ?_⟩
    unfold forF at p
    cases hf : its r with
    | err n ns vs =>
      rw [hf] at p
      exact fun C dd S' H' fs h1 fw h2 h3 h4 => p C dd σ S' H' fs h1 (ok.fwd.trans fw) (fun g q => by rw [hg g q]; exact ok.go fw) h2 h3 h4
    | bad => rw [hf] at p; exact p.elim
    | ok ds =>
      rw [hf] at p
      intro S1 H1 w1 J ⟨Gd, Y, wk, hG, hY⟩
      have p : PostS c S0 H0 L G (loopF t F ds r) E := p
      refine for_it wk (fun i σ' H' => ∃ S' r', Ex S1 S' ∧ EnvOk c S0 H0 G S' H' σ' r' ∧ PostS c S0 H0 L G (loopF t F (ds.drop i) r') E) ⟨S1, r, Ex.refl, ok.go w1, by rw [List.drop_zero]; exact p⟩ ?_ ?_ ?_
      · rintro i σ' H' _ ⟨S', r', e1, ok', _⟩
        exact hG S' H' e1 ok'.ex ok'.fwd.h
      · rintro i x σ' H' H2 hi ⟨S', r', e1, ok', p'⟩ y
        obtain ⟨S2, d, fw, hd, hx⟩ := hY i S' H' x H2 hi e1 ok'.ex y
        have hdrop : ds.drop i = d :: ds.drop (i + 1) := by
          rw [List.drop_eq_getElem_cons hi]
          rw [List.getElem?_eq_getElem hi] at hd
          cases hd; rfl
        rw [hdrop] at p'
        unfold loopF at p'
        refine ⟨S0, H0, S2, r', d, ok'.go fw, hx, ?_⟩
        cases htt : t d r' with
        | err _ _ _ => rw [htt] at p'; exact p'.elim
        | bad => rw [htt] at p'; exact p'.elim
        | ok r1 =>
          rw [htt] at p'
          intro σ3 _ ok3
          refine ⟨S2, H0, S2, r1, ok3.rebase, ?_⟩
          dsimp only at p'
          have fin : ∀ σ4 S4 H4 r4, EnvOk c S2 H0 G S4 H4 σ4 r4 → PostS c S0 H0 L G (loopF t F (ds.drop (i + 1)) r4) E → ∃ S' r', Ex S1 S' ∧ EnvOk c S0 H0 G S' H4 σ4 r' ∧ PostS c S0 H0 L G (loopF t F (ds.drop (i + 1)) r') E := fun σ4 S4 H4 r4 e4 p4 =>
            ⟨S4, r4, (e1.trans fw.s).trans e4.fwd.s, e4.unbase ok3.fwd, p4⟩
          cases hF : F r1 with
          | nx r2 => rw [hF] at p'; exact fun σ4 S4 H4 e4 => fin σ4 S4 H4 r2 e4 p'
          | ct r2 => rw [hF] at p'; exact fun σ4 S4 H4 e4 => fin σ4 S4 H4 r2 e4 p'
          | bk r2 => rw [hF] at p'; exact fun σ4 S4 H4 e4 => p' σ4 S4 H4 (e4.unbase ok3.fwd)
          | rt d => rw [hF] at p'; exact PostS.rebase (c := c) (o := .rt d) (E := E) ok3.fwd p'
          | er r2 n ns vs => rw [hF] at p'; exact PostS.rebase (c := c) (o := .er r2 n ns vs) (E := E) ok3.fwd p'
          | bad => rw [hF] at p'; exact p'.elim
      · rintro σ' H' ⟨S', r', e1, ok', p'⟩
        rw [List.drop_length] at p'
        exact p' σ' S' H' ok'
end
end Dx
end S_DxE
section S_DxF
set_option Elab.async false
set_option linter.all false
set_option maxRecDepth 100000
set_option maxHeartbeats 2000000
namespace Dx
open PySem L2
def wipeR (r : Rho) : List Nat → Rho
  | [] => r
  | v :: vs => (wipeR r vs).set v none
theorem wipeR_len (r : Rho) : ∀ vs : List Nat, (wipeR r vs).length = r.length
  | [] => rfl
  | v :: vs => by show ((wipeR r vs).set v none).length = _; rw [List.length_set, wipeR_len r vs]
theorem wipeR_some {r : Rho} {i : Nat} {d : D} : ∀ {vs : List Nat}, (wipeR r vs)[i]? = some (some d) → r[i]? = some (some d) ∧ i ∉ vs
  | [], h => ⟨h, by simp⟩
  | v :: vs, h => by
    rcases set_some (l := wipeR r vs) h with ⟨_, e, _⟩ | ⟨ne, h⟩
    · cases e
    · obtain ⟨h1, h2⟩ := wipeR_some h
      exact ⟨h1, by simp [Ne.symm ne, h2]⟩
/-- within a comprehension nothing is raised -/
abbrev Cf.calm (c : Cf) : Cf := ⟨c.K, c.cm, fun _ _ _ _ => False, none, c.rm⟩
section
variable {X : Cx} {c : Cf} {L G G' : List Ow} {σ : St} {S0 H0 S H : Hp} {r : Rho}
theorem EnvOk.wiped (e : EnvOk c S0 H0 G S H σ r) (vs : List Nat) : EnvOk c.calm S0 H0 G S H (wipe σ vs) (wipeR r vs) := by
  refine ⟨e.fwd, by rw [wipe_length, wipeR_len, e.len], fun i d h => ?_, fun i j d d' p hi hj ki kj si sj => ?_, let ⟨A, hA⟩ := e.sto; ⟨A, hA.sub (fun a ha => (hA.out a ha).1) (fun _ _ => rfl) Ex.refl (fun i d p hi ki si => hA.own i d p (wipeR_some hi).1 ki (wipe_some si).1) fun i d ki hi => ⟨rfl, (wipeR_some hi).1, by rw [wipe_get, if_neg (wipeR_some hi).2]⟩⟩⟩
  · obtain ⟨h1, h2⟩ := wipeR_some h
    obtain ⟨v, h3, h4⟩ := e.slot i d h1
    exact ⟨v, by rw [wipe_get, if_neg h2]; exact h3, h4⟩
  · exact e.sep i j d d' p (wipeR_some hi).1 (wipeR_some hj).1 ki kj (wipe_some si).1 (wipe_some sj).1
theorem Fwd.put {S' H' : Hp} {p : Addr} {o : HO} (f : Fwd S H S' H') (n : H p = none) (ns : S' p = none) : Fwd S H S' (upd H' p o) := ⟨f.s, f.h.put n, f.sub.put ns, f.new⟩
def lcLoop (t : D → Rho → Res Rho) (tt : Rho → Res Bool) (fe : Rho → Res D) (rw : Rho) : List D → Res (List D)
  | [] => .ok []
  | d :: ds => match t d rw with
    | .ok r1 => match tt r1 with
      | .ok true => match fe r1 with
        | .ok x => match lcLoop t tt fe rw ds with
          | .ok xs => .ok (x :: xs)
          | _ => .bad
        | _ => .bad
      | .ok false => lcLoop t tt fe rw ds
      | _ => .bad
    | _ => .bad
noncomputable def dLc (its : Rho → Res (List D)) (t : D → Rho → Res Rho) (tt : Rho → Res Bool) (fe : Rho → Res D) (vs : List Nat) : Rho → Res D := fun r => (its r).bind fun ds => guard (ds.length ≤ sizeLine) (match lcLoop t tt fe (wipeR r vs) ds with
  | .ok xs => .ok (.lst xs)
  | _ => .bad)
def dYes : Rho → Res Bool := fun _ => .ok true
/-- what is walked, as long as nothing that is there changes -/
def iDl (c : Cf) (G : List Ow) (f : Rho → Res (List D)) : TI := fun σ H R => ∃ S0 H0 S r, EnvOk c S0 H0 G S H σ r ∧ PostG c σ S H (f r) fun ds S' H' => ∀ J, Gives c H' S' J ds → R J H'
theorem pi_l {tg it : Expr} {f : Rho → Res (List D)} (h : PI X tg it (iD c G f)) : PI X tg it (iDl c G f) := pi_imp h fun σ H R ⟨S0, H0, S, r, ok, p⟩ => ⟨S0, H0, S, r, ok, p.imp fun ds S' H' fw hk J gv => hk J (let ⟨Gd, Y, h1, h2, h3⟩ := gv; ⟨Gd, Y, h1, fun S'' H'' e1 e2 e3 => h2 S'' H'' e1 e2 ((ok.fwd.h.trans fw.h).trans e3), h3⟩)⟩
/-- an own list, in a comprehension -/
theorem di_ownL (i : Nat) {tg : Expr} {x : Str} {pos : Pos} (he : PE X (.Name x pos) (tVar i)) (k : kd G i = .o) (hK : c.K = X.K := by rfl) : PI X tg (.Name x pos) (iDl c G (dIt itemsL (dVar i))) := pi_imp (pi_list he) fun σ H R ⟨S0, H0, S, r, ok, p⟩ => by
  obtain ⟨d, hd, p⟩ := of_dVar (p.unbind)
  obtain ⟨q, ho, s1, s2, s3, s4, s5⟩ := ok.own k hd
  have p1 := p.go ok.ex
  refine ⟨.ref q, s1, ?_⟩
  rw [← hK]
  cases s5 with
  | @lst xs ds rr =>
    refine ⟨q, rfl, ⟨xs, .inl (.inl s2)⟩, p1.go ok.ex _ ⟨_, _, by rw [← rr.length]; exact walk_list (K := c.K) (a := q) (xs := xs), fun S'' H'' e1 e2 e3 => show SqL c.K H'' q xs from .inl (.inl (e3 _ _ s2)), fun i S1 H1 x H2 hi e1 e2 y => ?_⟩⟩
    obtain ⟨rfl, hx⟩ := y
    obtain ⟨d, h1, h2⟩ := rr.getV hx
    exact ⟨S1, d, Fwd.refl e2, h1, h2.mono e1⟩
  | _ => exact p1.elim
theorem lc_rd {its : Rho → Res (List D)} {t : D → Rho → Res Rho} {tt : Rho → Res Bool} {fe : Rho → Res D} {vs : List Nat} : ∀ σ H Q, tO c G (dLc its t tt fe vs) σ H Q →
    tLc (iDl c G its) (gD c.calm G G' vs t) (tT c.calm G' tt) (tV c.calm G' fe) vs σ H Q := fun σ H Q ⟨S0, H0, S, r, ok, p⟩ => by
  refine ⟨S0, H0, S, r, ok, p.unbind.imp fun ds S1 H1 w1 p1 J gv Dl hD => ?_⟩
  obtain ⟨hl, p1⟩ := p1.gd
  obtain ⟨Gd, Y, wk, hG, hY⟩ := gv
  have ok1 := ok.go w1
  split at p1
  · rename_i res hres
    have okw := ok1.wiped vs
    have nS : S1 Dl = none := ok1.ex.nn hD
    refine lc_it wk (fun i H' => ∃ S' acc accD rest, Fwd S1 H1 S' H' ∧ S' Dl = none ∧ H' Dl = some (.lst acc) ∧ RpA c.K c.cm S' acc accD ∧ lcLoop t tt fe (wipeR r vs) (ds.drop i) = .ok rest ∧ accD ++ rest = res ∧ accD.length ≤ i)
      ⟨S1, [], [], res, Fwd.heap ok1.ex hD, nS, upd_same, .nil, by rw [List.drop_zero]; exact hres, rfl, Nat.le_refl _⟩ ?_ ?_ ?_
    · rintro i H' _ ⟨S', acc, accD, rest, fw, _⟩
      exact hG S' H' fw.s fw.sub fw.h
    · rintro i x H' H2 hi ⟨S', acc, accD, rest, fw, n1, h1, r1, hr, ha, hn⟩ y
      obtain ⟨S2, d, fw2, hd, hx⟩ := hY i S' H' x H2 hi fw.s fw.sub y
      have hdrop : ds.drop i = d :: ds.drop (i + 1) := by
        rw [List.drop_eq_getElem_cons hi]
        rw [List.getElem?_eq_getElem hi] at hd
        cases hd; rfl
      rw [hdrop] at hr
      unfold lcLoop at hr
      refine ⟨S0, H0, S2, wipeR r vs, d, okw.go (fw.trans fw2), hx, ?_⟩
      cases ht : t d (wipeR r vs) with
      | err _ _ _ => rw [ht] at hr; cases hr
      | bad => rw [ht] at hr; cases hr
      | ok r2 =>
        rw [ht] at hr
        dsimp only at hr
        intro σ3 z3 ok3
        have hz : L2.wipe (L2.wipe σ vs) vs = L2.wipe σ vs := by
          apply List.ext_getElem?
          intro k
          rw [wipe_get, wipe_get]
          split
          · cases σ[k]? <;> rfl
          · rfl
        have keepN : ∀ S4 H4, Fwd S' H' S4 H4 → S4 Dl = none := fun S4 H4 f4 => by
          cases q : S4 Dl with
          | none => rfl
          | some u => obtain ⟨_, z⟩ := (f4.new Dl u q n1).not h1; cases z
        refine ⟨z3.trans hz, S0, H0, S2, r2, ok3, ?_⟩
        cases htt : tt r2 with
        | err _ _ _ => rw [htt] at hr; cases hr
        | bad => rw [htt] at hr; cases hr
        | ok b =>
          rw [htt] at hr
          intro S4 H4 w4 b' hb
          cases hb
          have f4 := fw2.trans w4
          cases b with
          | false =>
            dsimp only at hr
            rw [if_neg (by decide)]
            exact ⟨S4, acc, accD, rest, fw.trans f4, keepN S4 H4 f4, f4.h _ _ h1, r1.mono f4.s, hr, ha, Nat.le_succ_of_le hn⟩
          | true =>
            dsimp only at hr
            rw [if_pos rfl]
            refine ⟨S0, H0, S4, r2, ok3.go w4, ?_⟩
            cases hfe : fe r2 with
            | err _ _ _ => rw [hfe] at hr; cases hr
            | bad => rw [hfe] at hr; cases hr
            | ok x2 =>
              rw [hfe] at hr
              dsimp only at hr
              cases hlc : lcLoop t tt fe (wipeR r vs) (ds.drop (i + 1)) with
              | err _ _ _ => rw [hlc] at hr; cases hr
              | bad => rw [hlc] at hr; cases hr
              | ok xs2 =>
                rw [hlc] at hr
                cases hr
                intro S5 H5 w5 y5 hy5
                have f5 := f4.trans w5
                refine ⟨acc, f5.h _ _ h1, ?_, S5, acc ++ [y5], accD ++ [x2], xs2, (fw.trans f5).put hD (keepN S5 H5 f5), keepN S5 H5 f5, upd_same, (r1.mono f5.s).app (.one hy5), rfl, ?_, ?_⟩
                · rw [r1.length]; omega
                · rw [← ha, List.append_assoc]; rfl
                · simp; omega
    · rintro H' ⟨S', acc, accD, rest, fw, n1, h1, r1, hr, ha, hn⟩
      rw [List.drop_length] at hr
      cases hr
      rw [List.append_nil] at ha
      subst ha
      exact p1 S' H' fw _ ⟨Dl, .lst acc, rfl, w1.h.nn hD, n1, h1, .lst r1⟩
  · exact p1.elim
theorem de_lc {elt tg iter : Expr} {ifs : List Expr} {scope : Scope} {own : List (Str × Nat)} {pos : Pos} {its : Rho → Res (List D)} {t : D → Rho → Res Rho} {tt : Rho → Res Bool} {fe : Rho → Res D} (hc : X.calm = true) (hN : X.N.Nodup) (hi : PI X tg iter (iD c G its)) (ok : BlkOk X.N X.env.scope scope own)
    (hg : ∀ (s : Shared) (H : Hp) (C : Addr) (cl : List (Str × Addr)) (fp : List Addr), PG (X.blk s H scope (compEnvC scope cl C X.env) fp) tg (gD c.calm G G' (own.map (·.2)) t)) (ht : ∀ (s : Shared) (H : Hp) (C : Addr) (cl : List (Str × Addr)) (fp : List Addr), PTs (X.blk s H scope (compEnvC scope cl C X.env) fp) ifs (tT c.calm G' tt))
    (he : ∀ (s : Shared) (H : Hp) (C : Addr) (cl : List (Str × Addr)) (fp : List Addr), PE (X.blk s H scope (compEnvC scope cl C X.env) fp) elt (tV c.calm G' fe)) (hs : ∀ x, foldedSetIterable iter X.env x = pure x := by intro _; rfl) :
    PE X (.ListComp elt [⟨tg, iter, ifs, 0⟩] scope pos) (tO c G (dLc its t tt fe (own.map (·.2)))) := pe_imp (pe_lc hc hN (pi_l hi) ok hg ht he hs) lc_rd
/-- name = [..] on one line, the name a local -/
theorem ds_setLc (i : Nat) {y : Str} {py : Pos} {elt tg iter : Expr} {ifs : List Expr} {scope : Scope} {own : List (Str × Nat)} {pos spos : Pos} {its : Rho → Res (List D)} {t : D → Rho → Res Rho} {tt : Rho → Res Bool} {fe : Rho → Res D} (hgk : Gok c G) (hG : i < G.length) (hc : X.calm = true) (hN : X.N.Nodup) (hy : X.N[i]? = some y) (hyl : X.env.scope.names.lookup y = some .local)
    (hsw : swapsWith (.ListComp elt [⟨tg, iter, ifs, 0⟩] scope pos) (some (.Name y py)) spos.line X.env = pure true) (hi : PI X tg iter (iD c G its)) (ok : BlkOk X.N X.env.scope scope own)
    (hg : ∀ (s : Shared) (H : Hp) (C : Addr) (cl : List (Str × Addr)) (fp : List Addr), PG (X.blk s H scope (compEnvC scope cl C X.env) fp) tg (gD c.calm G G' (own.map (·.2)) t)) (ht : ∀ (s : Shared) (H : Hp) (C : Addr) (cl : List (Str × Addr)) (fp : List Addr), PTs (X.blk s H scope (compEnvC scope cl C X.env) fp) ifs (tT c.calm G' tt))
    (he : ∀ (s : Shared) (H : Hp) (C : Addr) (cl : List (Str × Addr)) (fp : List Addr), PE (X.blk s H scope (compEnvC scope cl C X.env) fp) elt (tV c.calm G' fe)) (hs : ∀ x, foldedSetIterable iter X.env x = pure x := by intro _; rfl) :
    PS X (.Assign [.Name y py] (.ListComp elt [⟨tg, iter, ifs, 0⟩] scope pos) spos) (sD c L G (G.set i .o) (setF i (dLc its t tt fe (own.map (·.2))))) :=
  ps_imp (ps_setLc hc hN hy hyl hsw (pi_l hi) ok hg ht he hs) fun E σ H ⟨S0, H0, S, r, ok, p⟩ => lc_rd σ H _ (st_seq hgk ok p fun d v S1 H1 w1 o1 m1 p1 => by
    obtain ⟨q, ho, rfl, n, ns, hp, h⟩ := m1
    exact p1 _ S1 H1 (ok.setO w1 i hG n ns hp h))
theorem dt_nil : PTs X [] (tT c G dYes) := ⟨fun pins s σ H Q I ⟨S0, H0, S, r, ok, p⟩ => pts_nil.run pins s σ H Q I (p.go ok.ex _ rfl)⟩
theorem dt_one {cnd : Expr} {tt : Rho → Res Bool} (h : PT X cnd (tT c G tt)) : PTs X [cnd] (tT c G tt) := pts_one h
def whileN (t : Rho → Res Bool) (F : Rho → SR) : Nat → Rho → SR
  | 0, _ => .bad
  | n + 1, r => liftS r (t r) fun b => if b = true then (match F r with
    | .nx r' => whileN t F n r'
    | .ct r' => whileN t F n r'
    | .bk r' => .nx r'
    | o => o) else .nx r
theorem ds_while {cnd : Expr} {body : List Stmt} {pos : Pos} {t : Rho → Res Bool} {F : Rho → SR} (n : Nat) (hg : Gok c G) (hp : PassesOwn (model X.prog X.w) X.A X.env X.xe) (hc : PT X cnd (tT c G t)) (hb : PSs X body (sD c G G G F)) :
    PS X (.While cnd body [] pos) (sD c L G G (whileN t F n)) := ps_imp (ps_while hp hc hb) fun E σ H ⟨S0, H0, S, r, ok, p⟩ => by
  refine ⟨fun m σ' H' => ∃ S' r', EnvOk c S0 H0 G S' H' σ' r' ∧ PostS c S0 H0 L G (whileN t F m r') E, ⟨n, S, r, ok, p⟩, ?_⟩
  rintro m σ1 H1 ⟨S1, r1, ok1, p1⟩
  cases m with
  | zero => exact p1.elim
  | succ m =>
    refine st_seq hg ok1 p1 fun b v S2 H2 w2 o2 m2 p2 => ?_
    rw [show v = b from m2]
    cases b with
    | false => exact p2 σ1 S2 H2 o2
    | true =>
      have p2 : PostS c S0 H0 L G (match F r1 with
        | .nx r' => whileN t F m r'
        | .ct r' => whileN t F m r'
        | .bk r' => .nx r'
        | o => o) E := p2
      rw [if_pos rfl]
      refine ⟨fun σ3 H3 => ∃ S3 r3, EnvOk c S0 H0 G S3 H3 σ3 r3 ∧ PostS c S0 H0 L G (whileN t F m r3) E, fun σ3 H3 h => ⟨m, Nat.lt_succ_self m, h⟩, S0, H0, S2, r1, o2, ?_⟩
      cases hF : F r1 with
      | nx r2 => rw [hF] at p2; exact fun σ4 S4 H4 e4 => ⟨S4, r2, e4, p2⟩
      | ct r2 => rw [hF] at p2; exact fun σ4 S4 H4 e4 => ⟨S4, r2, e4, p2⟩
      | bk r2 => rw [hF] at p2; exact fun σ4 S4 H4 e4 => p2 σ4 S4 H4 e4
      | rt d => rw [hF] at p2; exact p2
      | er r2 n ns vs => rw [hF] at p2; exact p2
      | bad => rw [hF] at p2; exact p2.elim
end
/-- the mode of its result: own, or a value -/
def mR (c : Cf) (rm : Bool) : Md V D := if rm then mO c else mV c
instance {c : Cf} {rm : Bool} : Anti (mR c rm) := by
  cases rm with
  | true => exact (inferInstance : Anti (mO c))
  | false => exact (inferInstance : Anti (mV c))
/-- F by data; ms the arguments' modes; rm whether the result is a new object that nothing else holds -/
def spD (K : PySem.W.Frag) (cm : CM) (ms : List Bool) (rm : Bool) (F : List D → Res D) : Sp := fun vs H Q E => ∃ S ds, Ex S H ∧ RpM ⟨K, cm, fun _ _ _ _ => False, none, rm⟩ S H ms vs ds ∧
  PostG ⟨K, cm, fun cls d _ H => E cls d H, none, rm⟩ [] S H (F ds) fun a S' H' => ∀ b, mR ⟨K, cm, fun _ _ _ _ => False, none, rm⟩ rm H S' H' b a → Q b H'
section
variable {X : Cx} {c : Cf} {L G G' : List Ow} {k : Nat} {f : Addr} {fd : FuncData} {ps : List Str} {x : Str} {p pos : Pos} {e : Expr} {es : List Expr} {fs : Rho → Res (List D)} {ms : List Bool} {rm : Bool} {F : List D → Res D}
theorem RpM.cf {c c' : Cf} {S H : Hp} (hK : c.K = c'.K) (hm : c.cm = c'.cm) : ∀ {ms : List Bool} {vs : List V} {ds : List D}, RpM c S H ms vs ds → RpM c' S H ms vs ds
  | [], [], [], _ => trivial
  | true :: ms, v :: vs, d :: ds, h => ⟨by rw [← hK, ← hm]; exact h.1, RpM.cf hK hm h.2⟩
  | false :: ms, v :: vs, d :: ds, h => ⟨by rw [← hK, ← hm]; exact h.1, RpM.cf hK hm h.2⟩
  | [], _ :: _, _, h => h.elim
  | [], [], _ :: _, h => h.elim
  | true :: _, [], _, h => h.elim
  | true :: _, _ :: _, [], h => h.elim
  | false :: _, [], _, h => h.elim
  | false :: _, _ :: _, [], h => h.elim
theorem call_rd {E : XK} {σ : St} {S H : Hp} {vs : List V} {ds : List D} {Q : VK} (hE : ∀ cls d H, c.W cls d σ H → E cls d H) (ex : Ex S H) (m : RpM c S H ms vs ds)
    (q : PostG c σ S H (F ds) fun a S' H' => ∀ b, mR c rm H S' H' b a → Q b H') : spD c.K c.cm ms rm F vs H Q E := by
  refine ⟨S, ds, ex, RpM.cf (c := c) (c' := ⟨c.K, c.cm, fun _ _ _ _ => False, none, rm⟩) rfl rfl m, ?_⟩
  cases hF : F ds with
  | ok a =>
    rw [hF] at q
    intro S' H' w b hb
    refine q S' H' w b ?_
    cases rm with
    | true => exact hb
    | false => exact hb
  | err n ns vs => rw [hF] at q; exact fun C dd S' H' fs h1 w h2 h3 h4 => hE _ _ _ (q C dd S' H' fs h1 w h2 h3 h4)
  | bad => rw [hF] at q; exact q.elim
/-- f(e, ..), f a def of the text -/
theorem de_call (F1 : FnOk X.prog X.w X.K X.mg X.base (L2.CX X.prog X.w) k f fd ps (spD c.K c.cm ms rm F)) (tk : Takes X c.W) (hr : Room k X.A) (hg : Gl X x) (hm : X.mg x = some (.ref f)) (hk : PySem.W.keepIn X.K (.ref f) = true) (hb : Binds X.K fd ps [])
    (ha : PA X (e :: es) (tM c G ms fs)) (hdb : (x == ("__debug__" : Str)) = false := by decide) (he : starEach (e :: es) X.env = (false, eval e X.env) :: starEach es X.env := by rfl) (hpl : (backTo pos (starEach es X.env)).any (·.1) = false := by rfl) :
    PE X (.Call (.Name x p) (e :: es) [] pos) (rd c G (dCall F fs) (mR c rm)) :=
  pe_imp (pe_callSD (E := fun σ cls d H => c.W cls d σ H) F1 hr hg hm hk hb .nil (fun σ => passAt tk σ) ha hdb he hpl) fun σ H Q ⟨S0, H0, S, r, ok, q⟩ => rd_seq ok q fun ds vs S1 H1 w1 o1 m1 p1 => by
    rw [List.append_nil]
    exact call_rd (fun _ _ _ h => h) o1.ex m1 (p1.anti w1.h)
theorem de_callV (F1 : FnOk X.prog X.w X.K X.mg X.base (L2.CX X.prog X.w) k f fd ps (spD c.K c.cm ms false F)) (tk : Takes X c.W) (hr : Room k X.A) (hg : Gl X x) (hm : X.mg x = some (.ref f)) (hk : PySem.W.keepIn X.K (.ref f) = true) (hb : Binds X.K fd ps [])
    (ha : PA X (e :: es) (tM c G ms fs)) (hdb : (x == ("__debug__" : Str)) = false := by decide) (he : starEach (e :: es) X.env = (false, eval e X.env) :: starEach es X.env := by rfl) (hpl : (backTo pos (starEach es X.env)).any (·.1) = false := by rfl) :
    PE X (.Call (.Name x p) (e :: es) [] pos) (tV c G (dCall F fs)) := de_call F1 tk hr hg hm hk hb ha hdb he hpl
def startR (n : Nat) (ds : List D) : Rho := ds.map some ++ List.replicate (n - ds.length) none
def G0 (ms : List Bool) (n : Nat) : List Ow := ms.map (fun m => if m then .b else .v) ++ List.replicate (n - ms.length) .v
def runF (n : Nat) (rm : Bool) (Fb : Rho → SR) (ds : List D) : Res D := match Fb (startR n ds) with
  | .rt d => .ok d
  | .nx _ => if rm then .bad else .ok .non
  | .er _ n ns vs => .err n ns vs
  | _ => .bad
theorem RpM.get {S H : Hp} : ∀ {ms : List Bool} {vs : List V} {ds : List D} {i : Nat} {d : D}, RpM c S H ms vs ds → ds[i]? = some d → ∃ v m, vs[i]? = some v ∧ ms[i]? = some m ∧ SlotOk c H S H (if m then .b else .v) v d
  | [], [], [], _, _, _, h => by simp at h
  | true :: ms, v :: vs, d :: ds, 0, e, h, q => by simp at q; subst q; exact ⟨v, true, by simp, by simp, h.1⟩
  | false :: ms, v :: vs, d :: ds, 0, e, h, q => by simp at q; subst q; exact ⟨v, false, by simp, by simp, h.1⟩
  | true :: ms, v :: vs, d :: ds, i + 1, e, h, q => by
    obtain ⟨v, m, h1, h2, h3⟩ := RpM.get (i := i) h.2 (by simpa using q)
    exact ⟨v, m, by simpa using h1, by simpa using h2, h3⟩
  | false :: ms, v :: vs, d :: ds, i + 1, e, h, q => by
    obtain ⟨v, m, h1, h2, h3⟩ := RpM.get (i := i) h.2 (by simpa using q)
    exact ⟨v, m, by simpa using h1, by simpa using h2, h3⟩
  | [], _ :: _, _, _, _, h, _ => h.elim
  | [], [], _ :: _, _, _, h, _ => h.elim
  | true :: _, [], _, _, _, h, _ => h.elim
  | true :: _, _ :: _, [], _, _, h, _ => h.elim
  | false :: _, [], _, _, _, h, _ => h.elim
  | false :: _, _ :: _, [], _, _, h, _ => h.elim
theorem RpM.len {S H : Hp} : ∀ {ms : List Bool} {vs : List V} {ds : List D}, RpM c S H ms vs ds → vs.length = ms.length ∧ ds.length = ms.length
  | [], [], [], _ => ⟨rfl, rfl⟩
  | true :: ms, v :: vs, d :: ds, h => by have := RpM.len h.2; simp [this.1, this.2]
  | false :: ms, v :: vs, d :: ds, h => by have := RpM.len h.2; simp [this.1, this.2]
  | [], _ :: _, _, h => h.elim
  | [], [], _ :: _, h => h.elim
  | true :: _, [], _, h => h.elim
  | true :: _, _ :: _, [], h => h.elim
  | false :: _, [], _, h => h.elim
  | false :: _, _ :: _, [], h => h.elim
theorem kd_G0 {ms : List Bool} {n i : Nat} : ¬ isO (kd (G0 ms n) i) := by
  unfold kd G0
  rw [List.getD_eq_getElem?_getD, List.getElem?_append]
  split
  · rw [List.getElem?_map]
    cases ms[i]? with
    | none => intro h; cases h
    | some m => cases m <;> (intro h; cases h)
  · rw [List.getElem?_replicate]
    split <;> (intro h; cases h)
theorem kd_G0_sw {ms : List Bool} {n i : Nat} : (∀ P, kd (G0 ms n) i ≠ .s P) ∧ kd (G0 ms n) i ≠ .w := by
  unfold kd G0
  rw [List.getD_eq_getElem?_getD, List.getElem?_append]
  split
  · rw [List.getElem?_map]
    cases ms[i]? with
    | none => exact ⟨fun _ h => (by cases h), fun h => (by cases h)⟩
    | some m => cases m <;> exact ⟨fun _ h => (by cases h), fun h => (by cases h)⟩
  · rw [List.getElem?_replicate]
    split <;> exact ⟨fun _ h => (by cases h), fun h => (by cases h)⟩
theorem kd_G0_at {ms : List Bool} {n i : Nat} {m : Bool} (h : ms[i]? = some m) : kd (G0 ms n) i = if m then .b else .v := by
  unfold kd G0
  have hl : i < ms.length := (List.getElem?_eq_some_iff.mp h).1
  rw [List.getD_eq_getElem?_getD, List.getElem?_append, if_pos (by simpa using hl), List.getElem?_map, h]
  rfl
theorem startR_some {n i : Nat} {ds : List D} {d : D} (h : (startR n ds)[i]? = some (some d)) : ds[i]? = some d := by
  unfold startR at h
  rw [List.getElem?_append] at h
  split at h
  · rw [List.getElem?_map] at h
    cases q : ds[i]? with
    | none => rw [q] at h; cases h
    | some e => rw [q] at h; cases h; rfl
  · rw [List.getElem?_replicate] at h
    split at h <;> cases h
theorem env_start {N : List Str} {S H : Hp} {vs : List V} {ds : List D} (ex : Ex S H) (m : RpM c S H ms vs ds) (hn : ms.length ≤ N.length) : EnvOk c S H (G0 ms N.length) S H (L2.start N vs) (startR N.length ds) := by
  have hl := m.len
  refine ⟨Fwd.refl ex, by unfold L2.start startR; simp [hl.1, hl.2], fun i d h => ?_, fun i j d e p _ _ k _ _ _ => absurd k kd_G0, ⟨[], .nil fun _ _ _ => kd_G0_sw⟩⟩
  have hd := startR_some h
  obtain ⟨v, mm, h1, h2, h3⟩ := m.get hd
  refine ⟨v, ?_, by rw [kd_G0_at h2]; exact h3⟩
  unfold L2.start
  have hlt : i < vs.length := (List.getElem?_eq_some_iff.mp h1).1
  rw [List.getElem?_append, if_pos (by simpa using hlt), List.getElem?_map, h1]
  rfl
end
section
variable {P : Program} {w : World} {K : PySem.W.Frag} {mg : Str → Option Value} {base : Heap} {cm : CM}
abbrev cfE (K : PySem.W.Frag) (cm : CM) (rm : Bool) (E : XK) : Cf := ⟨K, cm, fun cls d _ H => E cls d H, none, rm⟩
/-- THE RULE for a def: its body by data -/
theorem dok {x qual : Str} {st : Stmt} {f : Addr} {fd : FuncData} {N ps : List Str} {k : Nat} {ms : List Bool} {rm : Bool} {G' : List Ow} {Fb : Rho → SR} (F : Fun K x qual st f fd) (S : FnScope N ps (defScope st)) (hm : ms.length = ps.length) (hn : ps.length ≤ N.length)
    (hb : ∀ (cdv : Value) (A : Around) (outer : List Env) (s : Shared) (H : Hp) (E : XK), Room k (A.deeper (PyProof.Rows.envOfC qual (defScope st) s.heap.objs.size f cdv)) →
      PSs (cxOf (L2.CX P w) P w K mg base N qual (defScope st) f cdv A outer s H E) (defBody st) (sD (cfE K cm rm E) [] (G0 ms N.length) G' Fb)) :
    FnOk P w K mg base (L2.CX P w) (k + 1) f fd ps (spD K cm ms rm (runF N.length rm Fb)) := by
  refine F.okX S (fun vs H Q E h => ?_) (fun cdv A outer s H vs Q E hr h => ?_)
  · obtain ⟨S, ds, _, m, _⟩ := h
    rw [m.len.1, hm]
  · obtain ⟨S, ds, ex, m, q⟩ := h
    refine ⟨_, hb cdv A outer s H E hr, S, H, S, startR N.length ds, env_start ex (RpM.cf (c := ⟨K, cm, fun _ _ _ _ => False, none, rm⟩) (c' := cfE K cm rm E) rfl rfl m) (by omega), ?_⟩
    unfold runF at q
    cases hF : Fb (startR N.length ds) with
    | rt d =>
      rw [hF] at q
      show PostS _ _ _ _ _ (.rt d) _
      unfold PostS
      dsimp only
      cases rm with
      | true => exact fun p ho S' H' fw n ns hp hh => q S' H' fw _ ⟨p, ho, rfl, n, ns, hp, hh⟩
      | false => exact fun v S' H' fw hv => q S' H' fw v hv
    | nx r =>
      rw [hF] at q
      cases rm with
      | true => exact q.elim
      | false => exact fun σ' S' H' ok => q S' H' ok.fwd _ Rp.non
    | er r n ns vs =>
      rw [hF] at q
      exact fun C dd σ' S' H' fs h1 fw _ h2 h3 h4 => q C dd S' H' fs h1 fw h2 h3 h4
    | bk r => rw [hF] at q; exact q.elim
    | ct r => rw [hF] at q; exact q.elim
    | bad => rw [hF] at q; exact q.elim
end
end Dx
end S_DxF
section S_DxG
set_option Elab.async false
set_option linter.all false
set_option maxRecDepth 100000
set_option maxHeartbeats 2000000
namespace Dx
open PySem L2
section
variable {X : Cx} {c : Cf} {L G G' : List Ow}
def spX1 (K : PySem.W.Frag) (C : Addr) (f : Str) : Sp := fun vs H Q _ => ∃ (a : Addr) (w : V), vs = [.ref a, w] ∧ OexC K C ∧ PySem.W.findIn K (.ref C) f = some none ∧ H a = some (exo a C none) ∧
  ∀ d, H d = none → d ≠ a → Q .non (upd (upd H d (exd d [(f, w)])) a (exo a C (some d)))
theorem xinit1 {P : Program} {w : World} {K : PySem.W.Frag} {mg : Str → Option Value} {base : Heap} {qual : Str} {st : Stmt} {fI C : Addr} {fd : FuncData} {N ps : List Str} {fl : Str} (F : Fun K "__init__" qual st fI fd) (S : FnScope N ps (defScope st)) (hl : ps.length = 2) (hN : N.length = 2)
    (hb : ∀ (cdv : Value) (A : Around) (outer : List Env) (s : Shared) (H : Hp) (E : XK), PSs (cxOf (L2.CX P w) P w K mg base N qual (defScope st) fI cdv A outer s H E) (defBody st) (tOst K fl (tVar 0) (tVar 1))) :
    FnOk P w K mg base (L2.CX P w) 1 fI fd ps (spX1 K C fl) := by
  refine F.okX (k := 0) S (fun vs H Q E h => ?_) (fun cdv A outer s H vs Q E hr h => ?_)
  · obtain ⟨a, w, rfl, _⟩ := h; exact hl.symm
  · obtain ⟨a, w', rfl, T, hno, ha, q⟩ := h
    refine ⟨_, hb cdv A outer s H E, ?_⟩
    have e : L2.start N [.ref a, w'] = [some (.ref a), some w'] := by unfold L2.start; rw [hN]; rfl
    rw [e]
    exact ⟨w', rfl, .ref a, rfl, a, C, rfl, T, hno, .inl ⟨ha, q⟩⟩
def raiF (n : Str) (ns : List Str) (rev : Bool) (fs : Rho → Res (List D)) : Rho → SR := fun r => liftS r (fs r) fun ds => if ds.length = ns.length then .er r n ns (if rev then ds.reverse else ds) else .bad
variable {e e2 : Expr} {fs : Rho → Res (List D)} {x n : Str} {C fI : Addr} {fd : FuncData} {ps : List Str} {p p' pos : Pos} {fl gl : Str}
theorem heap_x1 {H1 : Hp} {a d C : Addr} {o1 o2 o3 o4 o : HO} (ha : H1 a = none) (hne : d ≠ a) : upd (del (upd (upd (upd H1 a o1) d o2) a o3) a) d o = upd H1 d o := by
  funext b
  by_cases hb : b = d
  · subst hb; rw [upd_same, upd_same]
  · rw [upd_ne hb, upd_ne hb]
    by_cases hba : b = a
    · subst hba; rw [del_same, ha]
    · rw [del_ne hba, upd_ne hba, upd_ne hb, upd_ne hba]
theorem ds_raise1 (hg : Gok c G) (hcn : c.cm n = some C) (hc : X.calm = true) (tk : Takes X c.W) (T : OexC X.K C) (iC : PySem.W.findIn X.K (.ref C) "__init__" = some (some (.ref fI))) (tI : PySem.W.typeIn X.K (.ref fI) = some (.type "function")) (hno : PySem.W.findIn X.K (.ref C) fl = some none)
    (F1 : FnOk X.prog X.w X.K X.mg X.base (L2.CX X.prog X.w) 1 fI fd ps (spX1 X.K C fl)) (hr : Room 2 X.A) (hb : Binds X.K fd ps []) (hgx : Gl X x) (hm : X.mg x = some (.ref C)) (ha : PA X [e] (tAs c G fs))
    (hdb : (x == ("__debug__" : Str)) = false := by decide) (he : starEach [e] X.env = (false, eval e X.env) :: starEach [] X.env := by rfl) :
    PS X (.Raise (some (.Call (.Name x p) [e] [] p')) none pos) (sD c L G G' (raiF n [fl] false fs)) :=
  ps_imp (ps_raise hc tk (pmk_oex T iC tI F1 hr hb .nil passL hgx hm ha hdb he rfl)) fun E σ H ⟨S0, H0, S, r, ok, q⟩ => st_seq hg ok q fun ds vs S1 H1 w1 o1 m1 p1 => by
    obtain ⟨hl, p1⟩ := p1.ite
    match ds, vs, m1, hl with
    | [d1], [v1], .cons hv .nil, _ =>
      refine ⟨by show 1 ≤ 1000; decide, fun a na => ⟨a, v1, rfl, T, hno, upd_same, fun d hd hne => ⟨rfl, d, [(fl, v1)], upd_same, by rw [upd_ne hne, upd_same], by rw [upd_ne hne] at hd; exact hd, ?_⟩⟩⟩
      rw [upd_ne hne] at hd
      rw [heap_x1 (C := C) (o4 := .lst []) na hne]
      exact p1 C d σ (upd S1 d (.xd [(fl, v1)])) _ [(fl, v1)] hcn (o1.fwd.trans (Fwd.both o1.ex hd)) (fun g hgg => by rw [hg g hgg]; exact o1.go (Fwd.both o1.ex hd)) upd_same rfl (.cons (hv.mono (Ex.new (o1.ex.nn hd))) .nil)
/-- the kinds told ahead; what they are is the same whatever the wishes -/
theorem EnvOk.cf {c' : Cf} {S0 H0 S H : Hp} {σ : St} {r : Rho} (e : EnvOk c S0 H0 G S H σ r) (hK : c'.K = c.K) (hcm : c'.cm = c.cm) : EnvOk c' S0 H0 G S H σ r := by
  refine ⟨e.fwd, e.len, fun j d h => ?_, e.sep, by rw [hK, hcm]; exact e.sto⟩
  obtain ⟨v, q1, q2⟩ := e.slot j d h
  refine ⟨v, q1, ?_⟩
  cases kj : kd G j with
  | v => rw [kj] at q2; unfold SlotOk at q2 ⊢; rw [hK, hcm]; exact q2
  | o => rw [kj] at q2; unfold SlotOk at q2 ⊢; rw [hK, hcm]; exact q2
  | b => rw [kj] at q2; unfold SlotOk at q2 ⊢; rw [hK, hcm]; exact q2
  | s P => rw [kj] at q2; exact q2
  | w => rw [kj] at q2; exact q2
  | x a C dd => rw [kj] at q2; unfold SlotOk at q2 ⊢; rw [hK, hcm]; exact q2
  | i a => rw [kj] at q2; unfold SlotOk at q2 ⊢; rw [hK, hcm]; exact q2
def lookF (ns : List Str) (vs : List D) (f : Str) : Option D := (ns.zip vs).lookup f
theorem look_rp {K : PySem.W.Frag} {cm : CM} {S : Hp} {f : Str} {d : D} : ∀ {fs : List (Str × V)} {vs : List D}, RpA K cm S (fs.map (·.2)) vs → lookF (fs.map (·.1)) vs f = some d → ∃ v, fs.lookup f = some v ∧ Rp K cm S v d
  | [], vs, h, q => by cases h; cases q
  | (g, u) :: fs, _, h, q => by
    cases h with | @cons _ _ d' ds hu hr =>
    unfold lookF at q
    rw [List.map_cons, List.zip_cons_cons, List.lookup_cons] at q
    rw [List.lookup_cons]
    by_cases hfg : (f == g) = true
    · rw [hfg] at q ⊢; cases q; exact ⟨u, rfl, hu⟩
    · have : (f == g) = false := by simpa using hfg
      rw [this] at q ⊢
      exact look_rp hr q
end
end Dx
end S_DxG
section S_DxT
set_option Elab.async false
set_option linter.all false
set_option maxRecDepth 100000
set_option maxHeartbeats 2000000
namespace Dx
open PySem L2
theorem gok0 {K : PySem.W.Frag} {cm : CM} {rm : Bool} {E : XK} {G : List Ow} : Gok (cfE K cm rm E) G := fun _ h => nomatch h
theorem gokC {c : Cf} {G : List Ow} : Gok c.calm G := fun _ h => nomatch h
theorem hu65 {k : Nat} {A : Around} (hr : Room k A) : A.units + 65 < cLine := by have := hr.un; omega
theorem ints_rp {K : PySem.W.Frag} {cm : CM} {S : Hp} : ∀ ns : List Int, RpA K cm S (ns.map V.int) (ns.map D.int)
  | [] => .nil
  | n :: ns => .cons (.int n) (ints_rp ns)
theorem law_sp {K : PySem.W.Frag} {cm : CM} {F : List D → Res D} {ns : List Int} {H : Hp} {a : Addr} {Q : VK} {E : XK} (h : F [.fz (ns.map D.int)] = .ok (.bl true)) (hS : SqL K H a (ns.map V.int)) (k : ∀ H', Q (.bl true) H') : spD K cm [false] false F [.ref a] H Q E :=
  ⟨H, [.fz (ns.map D.int)], Ex.refl, ⟨.fz hS (ints_rp ns), trivial⟩, by
    rw [h]
    intro S' H' w b hb
    cases hb
    exact k H'⟩
theorem cx_never {P : Program} {w : World} {outer : List Env} {H : Hp} {s s' : Shared} {e : Value} (h : L2.CX P w outer H s (fun _ _ _ => False) e s') : False := by
  obtain ⟨_, _, _, _, _, _, _, _, _, _, _, _, hf⟩ := h
  exact hf
section
variable {X : Cx} {c : Cf} {L G G' : List Ow} {f f1 f2 : Rho → Res D} {o e : Expr} {pos apos : Pos}
def asS : D → Res Str
  | .str s => .ok s
  | _ => .bad
def MtS (c : Cf) (R : Md V D) (r : V → List V → Hp → VK → Prop) (g : D → D → Res D) : Prop := ∀ (σ : St) (S H : Hp) (x y : V) (d e : D) (Q : VK), Ex S H → RpB c.K c.cm S H x d → RpB c.K c.cm S H y e →
  PostG c σ S H (g d e) (fun a S' H' => ∀ b, R H S' H' b a → Q b H') → r x [y] H Q
def dStr (g : D → D → Res D) (f1 f2 : Rho → Res D) : Rho → Res D := fun r => (f1 r).bind fun x => (asS x).bind fun _ => (f2 r).bind fun y => g x y
theorem de_m1 {R : Md V D} [Anti R] {id : String} {name : Str} {r : V → List V → Hp → VK → Prop} {g : D → D → Res D} (slot : Slot "str" name id) (ty : typeOf (.builtin id) = pure (.type "method_descriptor")) (rule : MtR X id r) (hs : MtS c R r g) (ho : PE X o (tR c G f1)) (he : PE X e (tR c G f2))
    (hst : starEach [e] X.env = [(false, eval e X.env)] := by rfl) (hbase : attributeBase o name X.env (eval o X.env) = eval o X.env := by rfl) (hline : (apos.endLine == pos.line) = true := by rfl) :
    PE X (.Call (.Attribute o name apos) [e] [] pos) (rd c G (dStr g f1 f2) R) := pe_imp (pe_m1 slot ty rule ho he hst hbase hline) fun σ H Q ⟨S0, H0, S, r, ok, p⟩ => rd_seq ok p fun x v S1 H1 w1 o1 m1 p1 => by
  cases x with
  | str z =>
    have hv := RpB.str m1
    exact ⟨⟨z, hv⟩, rd_seq o1 (show PostG c σ S1 H1 ((f2 r).bind fun y => g (.str z) y) _ from p1) fun y u S2 H2 w2 o2 m2 p2 => hs σ S2 H2 v u (.str z) y Q o2.ex (RpB.mono m1 w2.s w2.h) m2 (p2.anti (w1.h.trans w2.h))⟩
  | _ => exact p1.elim
def strsD (zs : List Str) : List D := zs.map .str
theorem strs_rp {K : PySem.W.Frag} {cm : CM} {S : Hp} : ∀ zs : List Str, RpA K cm S (zs.map V.str) (strsD zs)
  | [] => .nil
  | z :: zs => .cons (.str z) (strs_rp zs)
noncomputable def splitD : D → D → Res D
  | .str a, .str b => guard ((b.length == 0) = false ∧ a.length + 2 ≤ sizeLine) (.ok (.lst (strsD (Txt.split a b))))
  | _, _ => .bad
theorem ms_split : MtS c (mO c) (fun x xs H Q => ∃ a b, x = .str a ∧ xs = [.str b] ∧ (b.length == 0) = false ∧ a.length + 2 ≤ sizeLine ∧ rNewStrs (Txt.split a b) H Q) splitD := by
  intro σ S H x y d e Q ex hx hy p
  unfold splitD at p
  split at p
  · obtain ⟨hl, p⟩ := p.gd
    cases hx.str; cases hy.str
    exact ⟨_, _, rfl, rfl, hl.1, hl.2, fun q hq => p.kept ex hq (.lst (strs_rp _))⟩
  · exact p.elim
noncomputable def partD : D → D → Res D
  | .str a, .str b => guard ((b.length == 0) = false ∧ a.length ≤ sizeLine) (.ok (.tup [.str (Txt.partition a b).1, .str (Txt.partition a b).2.1, .str (Txt.partition a b).2.2]))
  | _, _ => .bad
theorem ms_part : MtS c (mV c) (fun x xs H Q => ∃ a b, x = .str a ∧ xs = [.str b] ∧ (b.length == 0) = false ∧ a.length ≤ sizeLine ∧
    ∀ p, H p = none → Q (.ref p) (upd H p (.tup [.str (Txt.partition a b).1, .str (Txt.partition a b).2.1, .str (Txt.partition a b).2.2]))) partD := by
  intro σ S H x y d e Q ex hx hy p
  unfold partD at p
  split at p
  · obtain ⟨hl, p⟩ := p.gd
    cases hx.str; cases hy.str
    exact ⟨_, _, rfl, rfl, hl.1, hl.2, fun q hq => p.laid ex hq (.tup upd_same (.cons (.str _) (.cons (.str _) (.cons (.str _) .nil))))⟩
  · exact p.elim
def startD : D → D → Res D
  | .str a, .str b => .ok (.bl (Txt.startswith a b))
  | _, _ => .bad
def endD : D → D → Res D
  | .str a, .str b => .ok (.bl (Txt.endswith a b))
  | _, _ => .bad
noncomputable def ordX : D → Res D
  | .str x => guard (x.length = 1) (.ok (.int (x.cps.getD 0 0 : Nat)))
  | _ => .bad
noncomputable def fmtD : D → Res D
  | .str y => guard (y.length ≤ sizeLine) (.ok (.str y))
  | .int i => guard (i.natAbs.log2 < 1920) (.ok (.str (toString i)))
  | _ => .bad
def dJnil : Str → Rho → Res D := fun acc _ => .ok (.str acc)
noncomputable def dJcons (f : Rho → Res D) (g : Str → Rho → Res D) : Str → Rho → Res D := fun acc r => (f r).bind fun d => (asS d).bind fun y => guard ((acc ++ y).length ≤ sizeLine) (g (acc ++ y) r)
def dJoin (g : Str → Rho → Res D) : Rho → Res D := g Str.empty
noncomputable def truB : D → Res Bool
  | .non => .ok false
  | .bl b => .ok b
  | .int i => .ok (i != 0)
  | .str y => guard (y.length ≤ sizeLine) (.ok ((y.length : Int) != 0))
  | .lst ds => .ok (!ds.isEmpty)
  | .fz ds => .ok (!ds.isEmpty)
  | .tup ds => .ok (!ds.isEmpty)
  | _ => .bad
noncomputable def dTru (f : Rho → Res D) : Rho → Res Bool := fun r => (f r).bind truB
theorem RpA.empty {K : PySem.W.Frag} {cm : CM} {S : Hp} {vs : List V} {ds : List D} (h : RpA K cm S vs ds) : (!ds.isEmpty) = !vs.isEmpty := by cases h <;> rfl
theorem dt_tru (he : PE X e (tR c G f)) (hw : ∀ whole, isTrue e X.env whole = (do let v ← whole; standAt e.pos; holding [v] (truthy v))) (hK : c.K = X.K := by rfl) : PT X e (tT c G (dTru f)) :=
  pt_imp (pt_truth he hw) fun σ H Q ⟨S0, H0, S, r, ok, p⟩ => rd_seq ok p fun d v S1 H1 w1 o1 m1 p1 => by
    rw [← hK]
    cases d with
    | non => cases RpB.non m1; exact ⟨_, rfl, p1.go o1.ex _ rfl⟩
    | bl b => cases RpB.bl m1; exact ⟨_, rfl, p1.go o1.ex _ rfl⟩
    | int i => cases RpB.int m1; exact ⟨_, rfl, p1.go o1.ex _ rfl⟩
    | str y =>
      cases RpB.str m1
      obtain ⟨hl, p1⟩ := p1.gd
      exact ⟨_, ⟨hl, rfl⟩, p1.go o1.ex _ rfl⟩
    | lst ds => obtain ⟨q, xs, rfl, a1, r1⟩ := RpB.list m1 o1.ex; exact ⟨_, .inl ⟨xs, .inl (.inl a1), r1.empty⟩, p1.go o1.ex _ rfl⟩
    | fz ds => obtain ⟨q, xs, rfl, a1, r1⟩ := RpB.fz m1 o1.ex; exact ⟨_, .inl ⟨xs, a1, r1.empty⟩, p1.go o1.ex _ rfl⟩
    | tup ds => obtain ⟨q, xs, rfl, a1, r1, s1⟩ := RpB.tup m1 o1.ex; exact ⟨_, .inr (.inl ⟨xs, a1, r1.empty⟩), p1.go o1.ex _ rfl⟩
    | _ => exact p1.elim
def augF (i : Nat) (g : D → D → Res D) (f : Rho → Res D) : Rho → SR := fun r => liftS r (dVar i r) fun x => liftS r (f r) fun y => liftS r (g x y) fun z => .nx (r.set i (some z))
end
end Dx
end S_DxT
section S_DxS
set_option Elab.async false
set_option linter.all false
set_option maxRecDepth 100000
set_option maxHeartbeats 2000000
namespace Dx
open PySem L2
/-- new own lists that stand in each other -/
def mG (c : Cf) : Md V D := fun H S' H' v d => ∃ k M A, d = .st k M ∧ A.Nodup ∧ A.length = M.length ∧ (∃ a, A[k]? = some a ∧ v = .ref a) ∧ (∀ a ∈ A, H a = none ∧ S' a = none) ∧
  ∀ (n : Nat) row, M[n]? = some row → ∃ a xs, A[n]? = some a ∧ H' a = some (.lst xs) ∧ RmA c.K c.cm A S' xs row
instance {c : Cf} : Anti (mG c) := ⟨fun e ⟨k, M, A, h1, h2, h3, h4, h5, h6⟩ => ⟨k, M, A, h1, h2, h3, h4, fun a ha => ⟨e.nn (h5 a ha).1, (h5 a ha).2⟩, h6⟩⟩
section
variable {X : Cx} {c : Cf} {L G G' : List Ow} {σ : St} {S0 H0 S H S' H' : Hp} {r : Rho}
variable {e : Expr} {pos : Pos} {f : Rho → Res D}
def isOwn : D → Bool
  | .own _ => true
  | .st _ _ => true
  | _ => false
theorem RmA.plain {A : List Addr} {xs : List V} {row : List D} (h : RmA c.K c.cm A S xs row) (hp : row.all (fun d => !isOwn d) = true) : RpA c.K c.cm S xs row := by
  obtain ⟨hl, h⟩ := h
  induction row generalizing xs with
  | nil =>
    cases xs with
    | nil => exact .nil
    | cons _ _ => cases hl
  | cons d row ih =>
    cases xs with
    | nil => cases hl
    | cons v xs =>
      rw [List.all_cons, Bool.and_eq_true] at hp
      refine .cons ?_ (ih hp.2 (by simpa using hl) fun i v d hv hd => h (i + 1) v d (by simpa using hv) (by simpa using hd))
      rcases h 0 v d rfl rfl with z | ⟨k, a, rfl, _⟩
      · exact z
      · cases hp.1
theorem RmA.atI {A : List Addr} {xs : List V} {row : List D} {j : Int} {d : D} (h : RmA c.K c.cm A S xs row) (q : L2.atI row j = some d) : ∃ v, L2.atI xs j = some v ∧ RmV c.K c.cm A S v d := by
  unfold L2.atI at q ⊢
  rw [h.1]
  cases hj : ixN row.length j with
  | none => rw [hj] at q; cases q
  | some n =>
    rw [hj] at q
    have q : row[n]? = some d := q
    have hlt : n < xs.length := by rw [h.1]; exact (List.getElem?_eq_some_iff.mp q).1
    exact ⟨xs[n], List.getElem?_eq_getElem hlt, h.2 n _ d (List.getElem?_eq_getElem hlt) q⟩
theorem RmA.set {A : List Addr} {xs : List V} {row : List D} {v : V} {d : D} (h : RmA c.K c.cm A S xs row) (hv : Rp c.K c.cm S v d) (n : Nat) : RmA c.K c.cm A S (xs.set n v) (row.set n d) := by
  refine ⟨by rw [List.length_set, List.length_set]; exact h.1, fun i u e hu he => ?_⟩
  rw [List.getElem?_set] at hu he
  split at hu
  · rename_i hni
    rw [if_pos hni] at he
    split at hu
    · cases hu
      split at he
      · cases he; exact .inl hv
      · cases he
    · cases hu
  · rename_i hni
    rw [if_neg hni] at he
    exact h.2 i u e hu he
end
end Dx
end S_DxS
section S_DxU
set_option Elab.async false
set_option linter.all false
set_option maxRecDepth 100000
set_option maxHeartbeats 2000000
namespace Dx
open PySem L2
def optL (g : D → Option D) : List D → Option (List D)
  | [] => some []
  | d :: ds => match g d, optL g ds with
    | some e, some es => some (e :: es)
    | _, _ => none
def derefD : Nat → List (List D) → D → Option D
  | _, _, .st _ _ => none
  | 0, _, .own _ => none
  | n + 1, M, .own k => match M[k]? with
    | some row => match optL (derefD n M) row with
      | some ds => some (.lst ds)
      | none => none
    | none => none
  | _, _, d => some d
section
variable {X : Cx} {c : Cf} {L G G' : List Ow} {σ : St} {S0 H0 S H S' H' : Hp} {r : Rho}
/-- all the own lists of slot i become values; the slots ws, that hold some of them, are given up -/
def pubF (n i : Nat) (ws : List Nat) : Rho → SR := fun r => match r[i]? with
  | some (some (.st k M)) => match derefD n M (.own k) with
    | some d => .nx ((wipeR r ws).set i (some d))
    | none => .bad
  | _ => .bad
end
end Dx
end S_DxU
section S_DxV
set_option Elab.async false
set_option linter.all false
set_option maxRecDepth 100000
set_option maxHeartbeats 2000000
namespace Dx
open PySem L2
/-- each item with its number -/
def numd : Nat → List D → List D
  | _, [] => []
  | n, d :: ds => .tup [.int (n : Int), d] :: numd (n + 1) ds
theorem numd_len : ∀ (ds : List D) (n : Nat), (numd n ds).length = ds.length
  | [], _ => rfl
  | d :: ds, n => by rw [numd, List.length_cons, List.length_cons, numd_len ds (n + 1)]
theorem numd_get : ∀ (ds : List D) (n i : Nat) (d : D), ds[i]? = some d → (numd n ds)[i]? = some (.tup [.int ((n + i : Nat) : Int), d])
  | [], _, _, _, h => by simp at h
  | d :: ds, n, 0, e, h => by simp at h; subst h; simp [numd]
  | d :: ds, n, i + 1, e, h => by
    have := numd_get ds (n + 1) i e (by simpa using h)
    rw [numd, List.getElem?_cons_succ, this, show n + 1 + i = n + (i + 1) by omega]
section
variable {X : Cx} {c : Cf} {G : List Ow} {f : Rho → Res D} {e : Expr} {pos : Pos}
theorem YOk.num {S : Hp} {xs : List V} {ds : List D} (rr : RpA c.K c.cm S xs ds) : YOk c S (numd 0 ds) (YPair (fun i => some (.int (i : Nat))) (fun i => xs[i]?)) := by
  intro i S1 H1 x H2 hi e1 e2 y
  obtain ⟨T, a, b, rfl, h1, rfl, h2, h3⟩ := y
  cases h2
  obtain ⟨d, g1, g2⟩ := rr.getV h3
  refine ⟨upd S1 T (.tup [.int (i : Nat), b]), .tup [.int ((0 + i : Nat) : Int), d], Fwd.both e2 h1, numd_get ds 0 i d g1, ?_⟩
  rw [Nat.zero_add]
  have ex : Ex S1 (upd S1 T (.tup [.int (i : Nat), b])) := Ex.new (e2.nn h1)
  exact .tup upd_same (.cons (.int _) (.cons ((g2.mono e1).mono ex) .nil))
def itemsF (d : D) : Res (List D) := match d with
  | .lst ds => .ok ds
  | .fz ds => .ok ds
  | _ => .bad
def enumL (d : D) : Res (List D) := (itemsF d).bind fun ds => .ok (numd 0 ds)
def enumT (d : D) : Res (List D) := (itemsT d).bind fun ds => .ok (numd 0 ds)
/-- enumerate(list): the list a value -/
theorem di_enumL {p tpos : Pos} {elts : List Expr} {kk : Nat} (hm : X.mg "enumerate" = none) (hg : Gl X "enumerate") (he : PE X e (tV c G f)) (hK : c.K = X.K := by rfl) (hs : starEach [e] X.env = (false, eval e X.env) :: starEach [] X.env := by rfl) :
    PI X (.Tuple elts kk tpos) (.Call (.Name "enumerate" p) [e] [] pos) (iD c G (dIt enumL f)) :=
  pi_imp (pi_enum hg hm (pa_cons he pa_nil hs) hs) fun σ H R ⟨S0, H0, S, r, ok, p⟩ => rd_seq ok p fun d v S1 H1 w1 o1 m1 p1 => by
    rw [← hK]
    have fin : ∀ q xs ds, SqL c.K S1 q xs → RpA c.K c.cm S1 xs ds → v = .ref q → itemsF d = .ok ds → ∃ a xs, [v] = [.ref a] ∧ SqL c.K H1 a xs ∧ R (Ite c.K a) H1 := fun q xs ds a1 a2 hv hd => by
      subst hv
      unfold enumL at p1
      rw [hd] at p1
      refine ⟨q, xs, rfl, o1.ex.l a1, PostG.go p1 o1.ex _ ⟨_, _, ?_, fun S'' H'' e1 e2 _ => e2.l (e1.l a1), YOk.num a2⟩⟩
      rw [numd_len, ← a2.length]
      exact walk_enum (K := c.K) (a := q) (xs := xs)
    cases d with
    | lst ds => cases m1 with | lst a1 a2 => exact fin _ _ ds (.inl (.inl a1)) a2 rfl rfl
    | fz ds => cases m1 with | fz a1 a2 => exact fin _ _ ds a1 a2 rfl rfl
    | _ => exact p1.elim
end
end Dx
end S_DxV
section S_DxW
set_option Elab.async false
set_option linter.all false
set_option maxRecDepth 100000
set_option maxHeartbeats 2000000
namespace Dx
open PySem L2 PyProof.Rows
end Dx
end S_DxW
section S_DxX
set_option Elab.async false
set_option linter.all false
set_option maxRecDepth 100000
set_option maxHeartbeats 2000000
namespace Dx
open PySem L2
section
variable {X : Cx} {c : Cf} {L G G' : List Ow} {f f1 f2 : Rho → Res D} {a b e : Expr} {pos : Pos} {tg : Expr}
/-- sum of a list of ints -/
def allInt : List D → Option (List Int)
  | [] => some []
  | .int i :: ds => match allInt ds with
    | some is => some (i :: is)
    | none => none
  | _ => none
def sumD : D → Res D
  | .lst ds => match allInt ds with
    | some is => .ok (.int is.sum)
    | none => .bad
  | _ => .bad
end
end Dx
end S_DxX
section S_DxY
set_option Elab.async false
set_option linter.all false
set_option maxRecDepth 100000
set_option maxHeartbeats 2000000
namespace Dx
open PySem L2
section
variable {X : Cx} {CX : CXT} {k : Nat} {f C : Addr} {fd : FuncData} {ps : List Str} {sp : Sp} {E : St → XK} {x m : Str} {p pos apos : Pos} {e o : Expr} {es : List Expr} {ta : TE} {t : TA}
def tMethSD (C : Addr) (m : Str) (sp : Sp) (E : St → XK) (ta : TE) (t : TA) : TE := fun σ H Q => ta σ H fun x H1 => ∃ a dx fs, x = .ref a ∧ H1 a = some (.ins C dx fs) ∧ fs.lookup m = none ∧
  t σ H1 fun vs H2 => sp (x :: vs) H2 Q (E σ)
theorem pe_methSD {pl : Sem Bool} (he : PE X o ta) (c : Cls X.K C) (hm : Meth X.K C m f) (F : FnOk X.prog X.w X.K X.mg X.base CX k f fd ps sp) (hr : Room k X.A) (hb : L2.Binds X.K fd ps []) (hx : ∀ σ, PassesAt CX X σ (E σ)) (ha : PA X (e :: es) t)
    (hst : starEach (e :: es) X.env = (false, eval e X.env) :: starEach es X.env := by rfl) (hpl : (backTo pos (starEach es X.env)).any (·.1) = false := by rfl)
    (ht : eval (.Call (.Attribute o m apos) (e :: es) [] pos) X.env = (do
      let ov ← eval o X.env
      standAt apos.atName
      let (f, first) ← holding [ov] (getMethod ov m pl)
      callWith pos f first (backTo pos (starEach (e :: es) X.env)) (backToKw pos (keywordEach [] X.env))) := by rfl) :
    PE X (.Call (.Attribute o m apos) (e :: es) [] pos) (tMethSD C m sp E ta t) := by
  refine ⟨fun pins s σ H Q I h => ?_⟩
  refine PySem.W.methodCall_KW (pl := pl) (thn (he.run pins s σ H _ I h) fun u s1 ⟨x, H1, I1, rx, a, dx, fs, ex, ea, l, q⟩ => ?_) ht
  subst ex
  obtain rfl : u = Value.ref a := rx
  refine getmeth_ok I1 ea c hm l ?_
  refine PySem.W.callWith_K (first := [.ref a]) (h₀ := X.base) I.ok.mod.kin hm.kp (thn (ha.run pos pins s1 σ H1 _ I1 q) fun us s2 ⟨vs, H2, I2, r, q2⟩ => ⟨I2.kIn, ?_⟩) hst hpl
  exact run_fnSD (dvs := []) (us := .ref a :: us) (vs := .ref a :: vs) F hr hb .nil (hx σ) I2 (.cons rfl r) (by rw [List.append_nil]; exact q2)
theorem pe_methSD0 {pl : Sem Bool} (he : PE X o ta) (c : Cls X.K C) (hm : Meth X.K C m f) (F : FnOk X.prog X.w X.K X.mg X.base CX k f fd ps sp) (hr : Room k X.A) (hb : L2.Binds X.K fd ps []) (hx : ∀ σ, PassesAt CX X σ (E σ))
    (ht : eval (.Call (.Attribute o m apos) [] [] pos) X.env = (do
      let ov ← eval o X.env
      standAt apos.atName
      let (f, first) ← holding [ov] (getMethod ov m pl)
      callWith pos f first (backTo pos (starEach [] X.env)) (backToKw pos (keywordEach [] X.env))) := by rfl) :
    PE X (.Call (.Attribute o m apos) [] [] pos) (tMethSD C m sp E ta tNil) := by
  refine ⟨fun pins s σ H Q I h => ?_⟩
  refine PySem.W.methodCall_KW (pl := pl) (thn (he.run pins s σ H _ I h) fun u s1 ⟨x, H1, I1, rx, a, dx, fs, ex, ea, l, q⟩ => ?_) ht
  subst ex
  obtain rfl : u = Value.ref a := rx
  refine getmeth_ok I1 ea c hm l ?_
  exact PySem.W.callWith_K0 (first := [.ref a]) I1.kIn hm.kp (run_fnSD (dvs := []) (us := [.ref a]) (vs := [.ref a]) F hr hb .nil (hx σ) I1 (.cons rfl .nil) (by rw [List.append_nil]; exact q))
def tMakeSD (C : Addr) (sp : Sp) (dvs : List V) (E : St → XK) (t : TA) : TE := fun σ H Q => t σ H fun vs H1 => ∀ x dx, H1 x = none → H1 dx = none → dx ≠ x →
  sp (.ref x :: (vs ++ dvs)) (upd (upd H1 dx (.own x)) x (.ins C dx [])) (fun v H2 => v = .non ∧ Q (.ref x) H2) (E σ)
variable {dvs : List V} {ds : List Value}
theorem run_makeSD {pins : List (Addr × Obj)} {σ : St} {H : Hp} {s : Shared} {Q : VK} {us : List Value} {vs : List V} (M : Mk X.K C f) (F : FnOk X.prog X.w X.K X.mg X.base CX k f fd ps sp) (hr : Room (k + 1) X.A) (hb : L2.Binds X.K fd ps ds) (hd : Vals dvs ds)
    (hx : PassesAt CX X σ (E σ)) (I : Inv X pins σ H s) (r : Vals vs us)
    (h : ∀ x dx, H x = none → H dx = none → dx ≠ x → sp (.ref x :: (vs ++ dvs)) (upd (upd H dx (.own x)) x (.ins C dx [])) (fun v H2 => v = .non ∧ Q (.ref x) H2) (E σ)) :
    wpAny (model X.prog X.w) X.A (call (.ref C) us) (EP X pins σ Q) X.xe s := by
  have hq := h (s.heap.objs.size + 1) s.heap.objs.size (I.hok.fresh (Nat.le_succ _)) (I.hok.fresh (Nat.le_refl _)) (Nat.ne_of_lt (Nat.lt_succ_self _))
  have I2 := Inv.made (C := C) I
  have r2 : Vals (V.ref (s.heap.objs.size + 1) :: (vs ++ dvs)) (Value.ref (s.heap.objs.size + 1) :: (us ++ ds)) := .cons rfl (r.append hd)
  have hl : (Value.ref (s.heap.objs.size + 1) :: us ++ ds).length = ps.length := by
    have e := r2.length
    rw [F.len _ _ _ _ hq] at e
    exact e.symm
  refine wpAny_call (make_map (f := f) I.kIn M.makes M.init (beq_iff_eq.mp M.fn) (codeAny_mono (F.run _ X.stack _ _ ⟨Value.ref (s.heap.objs.size + 1) :: us, []⟩ (Value.ref (s.heap.objs.size + 1) :: (us ++ ds)) _ _ (E σ) (hr.make C us [])
    (I2.env0.make C us []) (hb _ (Value.ref (s.heap.objs.size + 1) :: us) I2.kIn hl) r2 hq) fun r s' hq' => ?_))
  cases r with
  | error e => exact hx pins _ _ e s' I2 hq'
  | ok fl =>
    cases fl with
    | ret u =>
      obtain ⟨v, H', I3, rv, ev, q3⟩ := I2.after hq'
      subst ev
      exact ⟨rv, ⟨V.ref (s.heap.objs.size + 1), H', I3, rfl, q3⟩⟩
    | next => exact False.elim hq'
    | brk => exact False.elim hq'
    | cont => exact False.elim hq'
theorem pe_makeSD (M : Mk X.K C f) (F : FnOk X.prog X.w X.K X.mg X.base CX k f fd ps sp) (hr : Room (k + 1) X.A) (hg : Gl X x) (hm : X.mg x = some (.ref C)) (hb : L2.Binds X.K fd ps ds) (hd : Vals dvs ds) (hx : ∀ σ, PassesAt CX X σ (E σ))
    (ha : PA X (e :: es) t) (hdb : (x == ("__debug__" : Str)) = false := by decide) (he : starEach (e :: es) X.env = (false, eval e X.env) :: starEach es X.env := by rfl) (hpl : (backTo pos (starEach es X.env)).any (·.1) = false := by rfl) :
    PE X (.Call (.Name x p) (e :: es) [] pos) (tMakeSD C sp dvs E t) := by
  refine ⟨fun pins s σ H Q I h => ?_⟩
  refine wpAny_Call_Name_kw (ld_glob I hg hm ?_ hdb)
  refine PySem.W.callWith_K (h₀ := X.base) I.ok.mod.kin M.kp (thn (ha.run pos pins s σ H _ I h) fun us s1 ⟨vs, H1, I1, r, q⟩ => ⟨I1.kIn, ?_⟩) he hpl
  exact run_makeSD M F hr hb hd (hx σ) I1 r q
end
section
variable {X : Cx} {c : Cf} {L G G' : List Ow} {f f1 : Rho → Res D} {e o : Expr} {es : List Expr} {pos apos p : Pos} {fs : Rho → Res (List D)}
/-- of an object of the class n, its field fl -/
def fldD (n fl : Str) : D → Res D
  | .obj c ns vs => if c = n then (match lookF ns vs fl with
    | some d => .ok d
    | none => .bad) else .bad
  | _ => .bad
theorem de_fld {n fl : Str} {C : Addr} (hcn : c.cm n = some C) (cl : Cls X.K C) (na : NoAttr X.K C fl) (he : PE X e (tR c G f)) (hb : attributeBase e fl X.env (eval e X.env) = eval e X.env := by rfl) :
    PE X (.Attribute e fl pos) (tV c G (dUn (fldD n fl) f)) := pe_imp (pe_fld he hb) fun σ H Q ⟨S0, H0, S, r, ok, p⟩ => rd_seq ok p fun d v S1 H1 w1 o1 m1 p1 => by
  cases d with
  | obj c' ns vs =>
    unfold fldD at p1
    dsimp only at p1
    split at p1
    · rename_i hc
      subst hc
      split at p1
      · rename_i d' hd
        obtain ⟨q, C', dx, fs, rfl, h1, h2, rfl, h4⟩ := RpB.obj m1 o1.ex
        rw [hcn] at h1; cases h1
        obtain ⟨v', hv, hr⟩ := look_rp h4 hd
        exact ⟨q, C, dx, fs, v', rfl, h2, cl, na, hv, p1.go o1.ex _ hr⟩
      · exact p1.elim
    · exact p1.elim
  | _ => exact p1.elim
/-- the own object in slot i gets a field -/
def putN (fl : Str) (d : D) : List Str → List D → List Str × List D
  | n :: ns, v :: vs => if n = fl then (n :: ns, d :: vs) else let z := putN fl d ns vs; (n :: z.1, v :: z.2)
  | ns, vs => (ns ++ [fl], vs ++ [d])
theorem putN_rp {K : PySem.W.Frag} {cm : CM} {S : Hp} {fl : Str} {d : D} {v : V} (hv : Rp K cm S v d) : ∀ {fs : List (Str × V)} {vs : List D}, RpA K cm S (fs.map (·.2)) vs →
    (putN fl d (fs.map (·.1)) vs).1 = (putF fl v fs).map (·.1) ∧ RpA K cm S ((putF fl v fs).map (·.2)) (putN fl d (fs.map (·.1)) vs).2
  | [], vs, h => by
    cases h
    refine ⟨rfl, ?_⟩
    show RpA K cm S [v] [d]
    exact .one hv
  | (n, u) :: fs, _, h => by
    cases h with | @cons _ _ d' ds' h1 h2 =>
    obtain ⟨z1, z2⟩ := putN_rp hv h2
    by_cases hn : n = fl
    · subst hn
      have e1 : putF n v ((n, u) :: fs) = (n, v) :: fs := by unfold putF; simp
      have e2 : putN n d (((n, u) :: fs).map (·.1)) (d' :: ds') = (n :: fs.map (·.1), d :: ds') := by
        show putN n d (n :: fs.map (·.1)) (d' :: ds') = _
        unfold putN; simp
      rw [e1, e2]
      exact ⟨rfl, .cons hv h2⟩
    · have e1 : putF fl v ((n, u) :: fs) = (n, u) :: putF fl v fs := by
        conv => lhs; unfold putF
        simp [hn, Ne.symm hn]
      have e2 : putN fl d (((n, u) :: fs).map (·.1)) (d' :: ds') = (n :: (putN fl d (fs.map (·.1)) ds').1, d' :: (putN fl d (fs.map (·.1)) ds').2) := by
        show putN fl d (n :: fs.map (·.1)) (d' :: ds') = _
        conv => lhs; unfold putN
        simp [hn]
      rw [e1, e2]
      exact ⟨by simp [z1], .cons h1 z2⟩
def fstF (i : Nat) (n fl : Str) (f : Rho → Res D) : Rho → SR := fun r => liftS r (f r) fun d => match r[i]? with
  | some (some (.obj c ns vs)) => if c = n ∧ ns.length < 1000 then .nx (r.set i (some (.obj c (putN fl d ns vs).1 (putN fl d ns vs).2))) else .bad
  | _ => .bad
theorem ds_fst (i : Nat) {n fl x : Str} {C : Addr} {pn pos' : Pos} (hg : Gok c G) (hcn : c.cm n = some C) (cl : Cls X.K C) (na : NoAttr X.K C fl) (k : isO (kd G i)) (ho : PE X (.Name x pn) (tVar i)) (he : PE X e (tV c G f))
    (hs : swapsWith e (some (.Attribute (.Name x pn) fl pos')) pos.line X.env = pure false := by rfl) : PS X (.Assign [.Attribute (.Name x pn) fl pos'] e pos) (sD c L G G (fstF i n fl f)) :=
  ps_imp (ps_fld ho he hs) fun E σ H ⟨S0, H0, S, r, ok, p⟩ => st_seq hg ok p fun d v S1 H1 w1 o1 m1 p1 => by
    split at p1
    · rename_i c' ns vs hr
      split at p1
      · rename_i hc
        obtain ⟨rfl, hl⟩ := hc
        obtain ⟨q, ho', s1, s2, s3, s4, s5⟩ := o1.ownI k hr
        cases s5 with | @obj C' dx _ fs _ _ h1 h2 h3 =>
        rw [hcn] at h1; cases h1
        subst h2
        obtain ⟨z1, z2⟩ := putN_rp (fl := fl) m1 h3
        refine ⟨.ref q, s1, q, C, dx, fs, rfl, s2, cl, na, by simpa using hl, p1 σ S1 _ ?_⟩
        exact o1.mutI k hr s1 (.obj hcn z1 z2)
      · exact p1.elim
    · exact p1.elim
variable {k : Nat} {fa : Addr} {fd : FuncData} {ps : List Str} {ms : List Bool} {rm : Bool} {F : List D → Res D}
def isObj (n m : Str) : D → Res Unit
  | .obj c ns _ => if c = n ∧ m ∉ ns then .ok () else .bad
  | _ => .bad
def dMeth (n m : Str) (F : List D → Res D) (f1 : Rho → Res D) (fs : Rho → Res (List D)) : Rho → Res D := fun r => (f1 r).bind fun x => (isObj n m x).bind fun _ => (fs r).bind fun ds => F (x :: ds)
theorem lookup_none {fs : List (Str × V)} {m : Str} (h : m ∉ fs.map (·.1)) : fs.lookup m = none := by
  induction fs with
  | nil => rfl
  | cons a fs ih =>
    obtain ⟨n, v⟩ := a
    simp only [List.map_cons, List.mem_cons, not_or] at h
    rw [List.lookup_cons]
    have : (m == n) = false := by simpa using h.1
    rw [this]
    exact ih h.2
theorem of_isObj {σ : St} {S H : Hp} {n m : Str} {d : D} {v : V} {g : Unit → Res D} {kk : D → Hp → Hp → Prop} (ex : Ex S H) (hv : RpB c.K c.cm S H v d) (p : PostG c σ S H ((isObj n m d).bind g) kk) :
    ∃ a C dx fs, v = .ref a ∧ c.cm n = some C ∧ H a = some (.ins C dx fs) ∧ fs.lookup m = none ∧ PostG c σ S H (g ()) kk := by
  cases d with
  | obj c' ns vs =>
    unfold isObj at p
    dsimp only at p
    split at p
    · rename_i hc
      obtain ⟨rfl, hm⟩ := hc
      obtain ⟨q, C', dx, fs, rfl, h1, h2, rfl, h4⟩ := RpB.obj hv ex
      exact ⟨q, C', dx, fs, rfl, h1, h2, lookup_none hm, p⟩
    · exact p.elim
  | _ => exact p.elim
theorem de_meth {n m : Str} {C : Addr} {pl : Sem Bool} (hcn : c.cm n = some C) (cl : Cls X.K C) (hm : Meth X.K C m fa) (F1 : FnOk X.prog X.w X.K X.mg X.base (L2.CX X.prog X.w) k fa fd ps (spD c.K c.cm (true :: ms) rm F)) (tk : Takes X c.W) (hr : Room k X.A) (hb : L2.Binds X.K fd ps [])
    (he : PE X o (tR c G f1)) (ha : PA X (e :: es) (tM c G ms fs))
    (hst : starEach (e :: es) X.env = (false, eval e X.env) :: starEach es X.env := by rfl) (hpl : (backTo pos (starEach es X.env)).any (·.1) = false := by rfl)
    (ht : eval (.Call (.Attribute o m apos) (e :: es) [] pos) X.env = (do
      let ov ← eval o X.env
      standAt apos.atName
      let (f, first) ← holding [ov] (getMethod ov m pl)
      callWith pos f first (backTo pos (starEach (e :: es) X.env)) (backToKw pos (keywordEach [] X.env))) := by rfl) :
    PE X (.Call (.Attribute o m apos) (e :: es) [] pos) (rd c G (dMeth n m F f1 fs) (mR c rm)) :=
  pe_imp (pe_methSD (pl := pl) (E := fun σ cls d H => c.W cls d σ H) he cl hm F1 hr hb (fun σ => passAt tk σ) ha hst hpl ht) fun σ H Q ⟨S0, H0, S, r, ok, q⟩ => rd_seq ok q fun x v S1 H1 w1 o1 m1 p1 => by
    obtain ⟨a, C', dx, fs', rfl, z1, z2, z3, p2⟩ := of_isObj o1.ex m1 p1
    rw [hcn] at z1; cases z1
    exact ⟨a, dx, fs', rfl, z2, z3, rd_seq o1 p2 fun ds vs S2 H2 w2 o2 m2 p3 => call_rd (ds := x :: ds) (fun _ _ _ h => h) o2.ex ⟨RpB.mono m1 w2.s w2.h, m2⟩ (p3.anti (w1.h.trans w2.h))⟩
theorem de_meth0 {n m : Str} {C : Addr} {pl : Sem Bool} (hcn : c.cm n = some C) (cl : Cls X.K C) (hm : Meth X.K C m fa) (F1 : FnOk X.prog X.w X.K X.mg X.base (L2.CX X.prog X.w) k fa fd ps (spD c.K c.cm [true] rm F)) (tk : Takes X c.W) (hr : Room k X.A) (hb : L2.Binds X.K fd ps [])
    (he : PE X o (tR c G f1))
    (ht : eval (.Call (.Attribute o m apos) [] [] pos) X.env = (do
      let ov ← eval o X.env
      standAt apos.atName
      let (f, first) ← holding [ov] (getMethod ov m pl)
      callWith pos f first (backTo pos (starEach [] X.env)) (backToKw pos (keywordEach [] X.env))) := by rfl) :
    PE X (.Call (.Attribute o m apos) [] [] pos) (rd c G (dMeth n m F f1 dNil) (mR c rm)) :=
  pe_imp (pe_methSD0 (pl := pl) (E := fun σ cls d H => c.W cls d σ H) he cl hm F1 hr hb (fun σ => passAt tk σ) ht) fun σ H Q ⟨S0, H0, S, r, ok, q⟩ => rd_seq ok q fun x v S1 H1 w1 o1 m1 p1 => by
    obtain ⟨a, C', dx, fs', rfl, z1, z2, z3, p2⟩ := of_isObj o1.ex m1 p1
    rw [hcn] at z1; cases z1
    exact ⟨a, dx, fs', rfl, z2, z3, call_rd (ds := [x]) (fun _ _ _ h => h) o1.ex ⟨m1, trivial⟩ (PostG.anti w1.h p2)⟩
/-- what an __init__ promises: from its arguments' data to the new object's data -/
def spI (K : PySem.W.Frag) (cm : CM) (C : Addr) (ms : List Bool) (F : List D → Res D) : Sp := fun vs H Q E => ∃ x dx H1 S us ds, vs = .ref x :: us ∧ H1 x = none ∧ H1 dx = none ∧ dx ≠ x ∧ H = upd (upd H1 dx (.own x)) x (.ins C dx []) ∧ Ex S H1 ∧
  RpM ⟨K, cm, fun _ _ _ _ => False, none, true⟩ S H1 ms us ds ∧
  PostG ⟨K, cm, fun cls d _ H => E cls d H, none, true⟩ [] S H1 (F ds) fun a S' H' => (∃ ho, S' x = none ∧ H' x = some ho ∧ RpO K cm S' ho a) → Q .non H'
theorem make_rd {E : XK} {σ : St} {S H : Hp} {vs : List V} {ds : List D} {Q : VK} {C x dx : Addr} (hE : ∀ cls d H, c.W cls d σ H → E cls d H) (ex : Ex S H) (m : RpM c S H ms vs ds) (hx : H x = none) (hdx : H dx = none) (hne : dx ≠ x)
    (q : PostG c σ S H (F ds) fun a S' H' => ∀ b, mO c H S' H' b a → Q b H') : spI c.K c.cm C ms F (.ref x :: vs) (upd (upd H dx (.own x)) x (.ins C dx [])) (fun v H2 => v = .non ∧ Q (.ref x) H2) E := by
  refine ⟨x, dx, H, S, vs, ds, rfl, hx, hdx, hne, rfl, ex, RpM.cf (c := c) (c' := ⟨c.K, c.cm, fun _ _ _ _ => False, none, true⟩) rfl rfl m, ?_⟩
  cases hF : F ds with
  | ok a =>
    rw [hF] at q
    intro S' H' w ⟨ho, h1, h2, h3⟩
    exact ⟨rfl, q S' H' w _ ⟨x, ho, rfl, hx, h1, h2, h3⟩⟩
  | err n ns vs => rw [hF] at q; exact fun C dd S' H' fs h1 w h2 h3 h4 => hE _ _ _ (q C dd S' H' fs h1 w h2 h3 h4)
  | bad => rw [hF] at q; exact q.elim
theorem de_make {x : Str} {C : Addr} (M : Mk X.K C fa) (F1 : FnOk X.prog X.w X.K X.mg X.base (L2.CX X.prog X.w) k fa fd ps (spI c.K c.cm C ms F)) (tk : Takes X c.W) (hr : Room (k + 1) X.A) (hg : Gl X x) (hm : X.mg x = some (.ref C)) (hb : L2.Binds X.K fd ps [])
    (ha : PA X (e :: es) (tM c G ms fs)) (hdb : (x == ("__debug__" : Str)) = false := by decide) (he : starEach (e :: es) X.env = (false, eval e X.env) :: starEach es X.env := by rfl) (hpl : (backTo pos (starEach es X.env)).any (·.1) = false := by rfl) :
    PE X (.Call (.Name x p) (e :: es) [] pos) (tO c G (dCall F fs)) :=
  pe_imp (pe_makeSD (dvs := []) (E := fun σ cls d H => c.W cls d σ H) M F1 hr hg hm hb .nil (fun σ => passAt tk σ) ha hdb he hpl) fun σ H Q ⟨S0, H0, S, r, ok, q⟩ => rd_seq ok q fun ds vs S1 H1 w1 o1 m1 p1 => fun x dx hx hdx hne => by
    rw [List.append_nil]
    exact make_rd (fun _ _ _ h => h) o1.ex m1 hx hdx hne (p1.anti w1.h)
end
def startI (n : Nat) (cls : Str) (ds : List D) : Rho := some (.obj cls [] []) :: ds.map some ++ List.replicate (n - (ds.length + 1)) none
def GI (x : Addr) (ms : List Bool) (n : Nat) : List Ow := .i x :: ms.map (fun m => if m then .b else .v) ++ List.replicate (n - (ms.length + 1)) .v
def runI (n : Nat) (cls : Str) (Fb : Rho → SR) (ds : List D) : Res D := match Fb (startI n cls ds) with
  | .nx r => (match r[0]? with
    | some (some d) => .ok d
    | _ => .bad)
  | .er _ n ns vs => .err n ns vs
  | _ => .bad
theorem kd_GI_succ {x : Addr} {ms : List Bool} {n i : Nat} : kd (GI x ms n) (i + 1) = kd (G0 ms (n - 1)) i := by
  unfold kd GI G0
  rw [List.getD_eq_getElem?_getD, List.getD_eq_getElem?_getD]
  simp [Nat.sub_sub, Nat.add_comm]
theorem startI_succ {n i : Nat} {cls : Str} {ds : List D} : (startI n cls ds)[i + 1]? = (startR (n - 1) ds)[i]? := by
  unfold startI startR
  simp [Nat.sub_sub, Nat.add_comm]
section
variable {P : Program} {w : World} {K : PySem.W.Frag} {mg : Str → Option Value} {base : Heap} {cm : CM}
theorem env_startI {c : Cf} {N : List Str} {S H1 : Hp} {us : List V} {ds : List D} {ms : List Bool} {x dx C : Addr} {n : Str} (hcn : c.cm n = some C) (ex : Ex S H1) (m : RpM c S H1 ms us ds) (hn : ms.length + 1 ≤ N.length) (hx : H1 x = none) (hdx : H1 dx = none) (hne : dx ≠ x) :
    EnvOk c S H1 (GI x ms N.length) S (upd (upd H1 dx (.own x)) x (.ins C dx [])) (L2.start N (.ref x :: us)) (startI N.length n ds) := by
  have hl := m.len
  have hx1 : (upd H1 dx (.own x)) x = none := by rw [upd_ne (Ne.symm hne)]; exact hx
  have e1 : Ex H1 (upd (upd H1 dx (.own x)) x (.ins C dx [])) := (Ex.new hdx).trans (Ex.new hx1)
  have fw : Fwd S H1 S (upd (upd H1 dx (.own x)) x (.ins C dx [])) := ⟨Ex.refl, e1, ex.trans e1, fun a o h n => by rw [n] at h; cases h⟩
  refine ⟨fw, by unfold L2.start startI; simp [hl.1, hl.2], fun i d h => ?_, fun i j d e p hi hj ki kj si sj => ?_, ⟨[], .nil fun i d hi => ?_⟩⟩
  · cases i with
    | zero =>
      have h : some (some (D.obj n [] [])) = some (some d) := h
      cases h
      refine ⟨.ref x, by unfold L2.start; simp, ?_⟩
      show SlotOk c H1 S _ (.i x) (.ref x) _
      exact ⟨rfl, x, _, rfl, upd_same, ex.nn hx, hx, .obj hcn rfl .nil⟩
    | succ i =>
      rw [startI_succ] at h
      have hd := startR_some h
      obtain ⟨v, mm, h1, h2, h3⟩ := m.get hd
      refine ⟨v, ?_, ?_⟩
      · unfold L2.start
        have hlt : i < us.length := (List.getElem?_eq_some_iff.mp h1).1
        rw [List.getElem?_append, if_pos (by simpa using hlt)]
        simp [h1]
      · rw [kd_GI_succ, kd_G0_at h2]
        cases mm with
        | true => exact h3
        | false => exact h3
  · cases i with
    | succ i => rw [kd_GI_succ] at ki; exact absurd ki kd_G0
    | zero => cases j with
      | zero => rfl
      | succ j => rw [kd_GI_succ] at kj; exact absurd kj kd_G0
  · cases i with
    | zero => exact ⟨fun _ h => (by cases h), fun h => (by cases h)⟩
    | succ i => rw [kd_GI_succ]; exact kd_G0_sw
/-- THE RULE for an __init__ -/
theorem dokI {x qual : Str} {st : Stmt} {f C : Addr} {fd : FuncData} {N ps : List Str} {k : Nat} {ms : List Bool} {n : Str} {Fb : Rho → SR} (F : Fun K x qual st f fd) (S : FnScope N ps (defScope st)) (hcn : cm n = some C) (hm : ms.length + 1 = ps.length) (hn : ps.length ≤ N.length)
    {G' : Addr → List Ow} (hG : ∀ a, kd (G' a) 0 = .i a)
    (hb : ∀ (cdv : Value) (A : Around) (outer : List Env) (s : Shared) (H : Hp) (E : XK) (a : Addr), Room k (A.deeper (PyProof.Rows.envOfC qual (defScope st) s.heap.objs.size f cdv)) →
      PSs (cxOf (L2.CX P w) P w K mg base N qual (defScope st) f cdv A outer s H E) (defBody st) (sD (cfE K cm false E) [] (GI a ms N.length) (G' a) Fb)) :
    FnOk P w K mg base (L2.CX P w) (k + 1) f fd ps (spI K cm C ms (runI N.length n Fb)) := by
  refine F.okX S (fun vs H Q E h => ?_) (fun cdv A outer s H vs Q E hr h => ?_)
  · obtain ⟨x, dx, H1, S, us, ds, rfl, _, _, _, _, _, m, _⟩ := h
    rw [List.length_cons, m.len.1, hm]
  · obtain ⟨x, dx, H1, S, us, ds, rfl, hx, hdx, hne, rfl, ex, m, q⟩ := h
    refine ⟨_, hb cdv A outer s _ E x hr, S, H1, S, startI N.length n ds, env_startI (c := cfE K cm false E) hcn ex (RpM.cf (c := ⟨K, cm, fun _ _ _ _ => False, none, true⟩) (c' := cfE K cm false E) rfl rfl m) (by omega) hx hdx hne, ?_⟩
    unfold runI at q
    cases hF : Fb (startI N.length n ds) with
    | rt d => rw [hF] at q; exact q.elim
    | nx r =>
      rw [hF] at q
      dsimp only at q
      intro σ' S' H' ok
      split at q
      · rename_i d hd
        obtain ⟨v, h1, h2⟩ := ok.slot 0 d hd
        rw [hG x] at h2
        obtain ⟨rfl, p, ho, e1, e2, e3, e4, e5⟩ := h2
        cases e1
        exact q S' H' ok.fwd ⟨ho, e3, e2, e5⟩
      · exact q.elim
    | er r n ns vs =>
      rw [hF] at q
      exact fun C dd σ' S' H' fs h1 fw _ h2 h3 h4 => q C dd S' H' fs h1 fw h2 h3 h4
    | bk r => rw [hF] at q; exact q.elim
    | ct r => rw [hF] at q; exact q.elim
    | bad => rw [hF] at q; exact q.elim
end
end Dx
end S_DxY
section S_DxZ
set_option Elab.async false
set_option linter.all false
set_option maxRecDepth 100000
set_option maxHeartbeats 2000000
namespace Dx
open PySem L2
section
variable {X : Cx} {c : Cf} {L G G' : List Ow} {f f1 f2 : Rho → Res D} {e e2 : Expr} {pos apos p : Pos} {fs : Rho → Res (List D)}
def enumS (d : D) : Res (List D) := (itemsS d).bind fun ds => .ok (numd 0 ds)
def pairs : List D → List D → List D
  | a :: as, b :: bs => .tup [a, b] :: pairs as bs
  | _, _ => []
theorem pairs_len : ∀ (as bs : List D), (pairs as bs).length = min as.length bs.length
  | [], _ => by simp [pairs]
  | _ :: _, [] => by simp [pairs]
  | a :: as, b :: bs => by simp [pairs, pairs_len as bs, Nat.succ_min_succ]
theorem pairs_get : ∀ (as bs : List D) (i : Nat) (a b : D), as[i]? = some a → bs[i]? = some b → (pairs as bs)[i]? = some (.tup [a, b])
  | [], _, _, _, _, h, _ => by simp at h
  | _ :: _, [], _, _, _, _, h => by simp at h
  | a :: as, b :: bs, 0, x, y, h1, h2 => by simp at h1 h2; subst h1 h2; simp [pairs]
  | a :: as, b :: bs, i + 1, x, y, h1, h2 => by
    rw [pairs, List.getElem?_cons_succ]
    exact pairs_get as bs i x y (by simpa using h1) (by simpa using h2)
def zipS : List D → Res (List D)
  | [.str x, .str y] => .ok (pairs (signs x) (signs y))
  | _ => .bad
def repS (x : Str) (n : Int) : Str := ⟨(List.replicate n.toNat x.cps.toList).flatten.toArray⟩
def rMulS : R2 := fun x y H Q => ∃ i j, x = .str i ∧ y = .int j ∧ j < 2 ^ 60 ∧ -(2 ^ 60) < j ∧ i.length * j.toNat ≤ sizeLine ∧ Q (.str (repS i j)) H
theorem repS_fold (x : Str) (n : Nat) (a : Array Nat) : (List.replicate n x.cps).foldl (· ++ ·) a = a ++ (List.replicate n x.cps.toList).flatten.toArray := by
  induction n generalizing a with
  | zero => simp
  | succ n ih => rw [List.replicate_succ, List.foldl_cons, ih, List.replicate_succ, List.flatten_cons]; apply Array.toList_inj.mp; simp
theorem op_mulS : OpR X (binaryOp .Mult) rMulS := by
  intro pins s σ H x y v u Q I rx ry h
  obtain ⟨i, j, rfl, rfl, h1, h2, hz, q⟩ := h
  obtain ⟨t, rfl⟩ := rx
  obtain ⟨t', rfl⟩ := ry
  have hz2 : (sizeLine : Nat) < 2 ^ 40 := by decide
  refine P.mul_str (by have a1 : ¬ j < -(2 ^ 63 : Int) := by omega
                       have a2 : ¬ j ≥ 2 ^ 63 := by omega
                       rw [decide_eq_false a1, decide_eq_false a2]; rfl) (fun hn hc => ?_) (fun hn hc => ?_) ?_
  · intro hgt
    have hj : 0 < j := by omega
    have h3 : (i.length : Int) * j ≤ sizeLine := by
      have : ((i.length * j.toNat : Nat) : Int) ≤ (sizeLine : Int) := by exact_mod_cast hz
      rw [Int.natCast_mul, Int.toNat_of_nonneg (by omega)] at this
      exact this
    have h4 : (2 ^ 63 - 1) / j + 1 ≤ (i.length : Int) := hgt
    have h5 : ((2 ^ 63 - 1) / j + 1) * j ≤ (i.length : Int) * j := Int.mul_le_mul_of_nonneg_right h4 (by omega)
    have h6 : (2 ^ 63 - 1) < ((2 ^ 63 - 1) / j + 1) * j := Int.lt_ediv_add_one_mul_self _ hj
    have h7 : ((sizeLine : Nat) : Int) < 2 ^ 40 := by exact_mod_cast hz2
    omega
  · exact decide_eq_false (Nat.not_lt.mpr hz)
  · have e1 : repS i j = ⟨(List.replicate j.toNat i.cps).foldl (· ++ ·) #[]⟩ := by
      unfold repS
      rw [repS_fold]; simp
    by_cases hn : j < 1
    · rw [if_pos hn]
      have : repS i j = Str.empty := by
        unfold repS
        rw [show j.toNat = 0 by omega]
        rfl
      rw [this] at q
      exact ⟨by decide, ⟨.str Str.empty, H, I.tok _, ⟨_, rfl⟩, q⟩⟩
    · rw [if_neg hn]
      by_cases hc : (j == 1 || i.length == 0) = true
      · rw [if_pos hc]
        have : repS i j = i := by
          rw [Bool.or_eq_true] at hc
          rcases hc with hc | hc
          · have : j = 1 := by simpa using hc
            subst this
            unfold repS
            apply Str.ext'
            simp
          · have h0 : i.cps.size = 0 := by have : i.length = 0 := by simpa using hc
                                           exact this
            have h0' : i.cps = #[] := Array.eq_empty_of_size_eq_zero h0
            unfold repS
            apply Str.ext'
            rw [h0']
            simp
        rw [this] at q
        exact ⟨.str i, H, I, ⟨_, rfl⟩, q⟩
      · rw [if_neg hc, ← e1]
        refine ⟨?_, ⟨.str (repS i j), H, I.tok _, ⟨_, rfl⟩, q⟩⟩
        have : (repS i j).length = i.length * j.toNat := by
          show (List.replicate j.toNat i.cps.toList).flatten.toArray.size = _
          rw [List.size_toArray, List.length_flatten, List.map_replicate, List.sum_replicate_nat, Array.length_toList, Nat.mul_comm]; rfl
        rw [this]; exact hz
noncomputable def mulX : D → D → Res D
  | .str a, .int k => guard (k < 2 ^ 60 ∧ -(2 ^ 60) < k ∧ a.length * k.toNat ≤ sizeLine) (.ok (.str (repS a k)))
  | x, y => mulD x y
def rMulY : R2 := fun x y H Q => rMulX x y H Q ∨ rMulS x y H Q
theorem or_mulX : OpR X (binaryOp .Mult) rMulY := or_mul.or op_mulS
theorem os_mulX : OpS c (mV c) rMulY mulX := by
  intro σ S H x y d e Q ex hx hy p
  unfold mulX at p
  split at p
  · cases hx.str; cases hy.int
    obtain ⟨⟨h1, h2, h3⟩, p⟩ := p.gd
    exact .inr ⟨_, _, rfl, rfl, h1, h2, h3, p.here ex (.str _)⟩
  · exact .inl (os_mul σ S H x y _ _ Q ex hx hy p)
variable {cpos : Pos}
noncomputable def insF (i : Nat) (fk f : Rho → Res D) : Rho → SR := fun r => liftS r (ownL i r) fun ds => liftS r (dCons fk (dCons f dNil) r) fun as => match as with
  | [.int k, d] => guardS (ds.length < sizeLine ∧ 0 ≤ k ∧ k < 2 ^ 62) (.nx (r.set i (some (.lst (ds.take k.toNat ++ [d] ++ ds.drop k.toNat)))))
  | _ => .bad
theorem ds_ins (i : Nat) {x : Str} {pn : Pos} {ek : Expr} {fk : Rho → Res D} (hg : Gok c G) (k : kd G i = .o) (ho : PE X (.Name x pn) (tVar i)) (hk : PE X ek (tV c G fk)) (he : PE X e (tV c G f))
    (hw : swapsWith (.Call (.Attribute (.Name x pn) "insert" apos) [ek, e] [] cpos) none pos.line X.env = pure false := by rfl)
    (hbase : attributeBase (.Name x pn) "insert" X.env (eval (.Name x pn) X.env) = eval (.Name x pn) X.env := by rfl)
    (hfew : ((backTo cpos (starEach [ek, e] X.env)).all (fun x => !x.1) && (backToKw cpos (keywordEach [] X.env)).all (fun x => x.1.isSome) && decide ([ek, e].length + ([] : List Keyword).length + (if ([] : List Keyword).isEmpty then 0 else 1) < 30)) = true := by rfl)
    (hline : (apos.endLine == cpos.line) = true := by rfl) (hs : starEach [ek, e] X.env = (false, eval ek X.env) :: starEach [e] X.env := by rfl) (hs2 : starEach [e] X.env = (false, eval e X.env) :: starEach [] X.env := by rfl) (hpl : (backTo cpos (starEach [e] X.env)).any (·.1) = false := by rfl) :
    PS X (.Expr (.Call (.Attribute (.Name x pn) "insert" apos) [ek, e] [] cpos) pos) (sD c L G G (insF i fk f)) :=
  ps_imp (ps_expr (pe_bm PySem.F.plainAttrs_list PySem.F.slot_list_insert PySem.F.type_list_insert mt_insert ho (da_cons hk (da_cons he da_nil hs2) hs) hbase hfew hline hs hpl) hw) fun E σ H ⟨S0, H0, S, r, ok, p⟩ => by
    obtain ⟨q, xs, ds, hd, z1, z2, z3, p1⟩ := of_ownL ok k p
    refine ⟨.ref q, z1, .inl ⟨rfl, xs, .inl (.inl z2)⟩, st_seq hg ok p1 fun as vs S1 H1 w1 o1 m1 p2 => ?_⟩
    split at p2
    · rename_i kk d
      match vs, m1 with
      | _, .cons h1 (.cons h2 .nil) =>
        cases h1
        obtain ⟨⟨hl, h0, h3⟩, p2⟩ := p2.gd
        refine ⟨q, xs, kk, _, rfl, rfl, w1.h _ _ z2, by rw [z3.length]; exact hl, h0, by omega, p2 σ S1 _ (o1.mut k hd z1 (.lst ?_))⟩
        have z4 := z3.mono w1.s
        exact ((z4.take _).app (.one h2)).app (z4.drop _)
    · exact p2.elim
end
end Dx
end S_DxZ
section S_DxO
set_option Elab.async false
set_option linter.all false
set_option maxRecDepth 100000
set_option maxHeartbeats 2000000
namespace Dx
open PySem L2 ItX
open PyProof.Rows hiding St
section
variable {X : Cx} {k : Nat} {fa C : Addr} {fd : FuncData} {ps : List Str} {sp : Sp} {pins : List (Addr × Obj)} {σ : St} {H : Hp} {s : Shared} {Q : VK} {us : List Value} {vs : List V}
abbrev noX : XK := fun _ _ _ => False
/-- a def runs below, and raises nothing -/
theorem run_ce {A : Around} {R : Value → Shared → Prop} {E' : Value → Shared → Prop} (F1 : FnOk X.prog X.w X.K X.mg X.base (L2.CX X.prog X.w) k fa fd ps sp) (hr : Room k A) (e0 : Env0 X.prog X.w X.K X.mg X.base A X.stack s H) (hb : L2.Binds X.K fd ps []) (hK : X.K.In s.heap) (r : Vals vs us) (h : sp vs H Q noX)
    (fin : ∀ u s', CE X.stack X.prog X.w H s Q u s' → R u s') : wpAny (model X.prog X.w) A (call (.ref fa) us) R E' s := by
  have hl : (us ++ []).length = ps.length := by rw [List.append_nil, ← r.length]; exact F1.len _ _ _ _ h
  have hb2 := hb s us hK hl
  rw [List.append_nil] at hb2
  refine wpAny_call (codeAny_mono (F1.run A X.stack s H ⟨us, []⟩ us vs Q noX hr e0 hb2 r h) fun r s' hq => ?_)
  cases r with
  | error e => exact (cx_never hq).elim
  | ok fl =>
    cases fl with
    | ret u => exact fin u s' hq
    | next => exact False.elim hq
    | brk => exact False.elim hq
    | cont => exact False.elim hq
theorem run_calm {A : Around} {E' : Value → Shared → Prop} (F1 : FnOk X.prog X.w X.K X.mg X.base (L2.CX X.prog X.w) k fa fd ps sp) (hr : Room k A) (e0 : Env0 X.prog X.w X.K X.mg X.base A X.stack s H) (hb : L2.Binds X.K fd ps []) (I : Inv X pins σ H s) (r : Vals vs us) (h : sp vs H Q noX) :
    wpAny (model X.prog X.w) A (call (.ref fa) us) (EP X pins σ Q) E' s := run_ce F1 hr e0 hb I.kIn r h fun u s' hq => I.after hq
theorem ins_at {a dx : Addr} {fs : List (Str × V)} (I : Inv X pins σ H s) (h : H a = some (.ins C dx fs)) : ∃ ox od, PySem.W.InstAt s.heap a ox C od ∧ ox.data = .plain := by
  obtain ⟨mA, O, _⟩ := ins_get I.hok h
  obtain ⟨od, J, _⟩ := O.look
  exact ⟨_, _, J, rfl⟩
/-- o op p, both of the class -/
def rCmpO (C : Addr) (sp : Sp) : R2 := fun x y H Q => ∃ a dx fs b dy gs, x = V.ref a ∧ y = V.ref b ∧ H a = some (.ins C dx fs) ∧ H b = some (.ins C dy gs) ∧ sp [.ref a, .ref b] H Q noX
theorem op_cmpO {op : CmpOp} (hop : ∀ a b, compareOp op a b = richCompare op a b) (hn : PySem.W.notFirst X.K C (.ref C) = true) (hm : L2.Meth X.K C (cmpInfo op).2.1 fa) (F1 : FnOk X.prog X.w X.K X.mg X.base (L2.CX X.prog X.w) k fa fd ps sp) (hr : Room k X.A) (hb : L2.Binds X.K fd ps []) : OpR X (compareOp op) (rCmpO C sp) := by
  intro pins s σ H x y v u Q I rx ry h
  obtain ⟨a, dx, fs, b, dy, gs, rfl, rfl, ha, hb', q⟩ := h
  cases rx
  cases ry
  obtain ⟨ox, od, J, _⟩ := ins_at I ha
  obtain ⟨ox', od', J', _⟩ := ins_at I hb'
  obtain ⟨m, hF⟩ := I.fr
  rw [hop]
  refine PySem.W.cmp_K (op := op) (tb := .ref C) hr.units0 hF I.ok.mod.kin J J'.type hn hm.at_ hm.fn (wpAny_mono (run_calm (us := [.ref a, .ref b]) (vs := [.ref a, .ref b]) F1 hr I.env0 hb I (.cons rfl (.cons rfl .nil)) q) (fun w s' z => ?_) fun _ _ x => x)
  obtain ⟨z', H', I', rz, qz⟩ := z
  exact SlX.cmpback rz ⟨z', H', I', rz, qz⟩
end
section
variable {X : Cx} {c : Cf} {L G G' : List Ow} {f f1 : Rho → Res D} {e o : Expr} {es : List Expr} {pos apos p : Pos} {fs : Rho → Res (List D)} {n : Str} {C : Addr} {F : List D → Res D} {ms : List Bool} {rm : Bool} {k : Nat} {fa : Addr} {fd : FuncData} {ps : List Str}
theorem calm_sp {S H : Hp} {vs : List V} {ds : List D} {Q : VK} {a : D} (ex : Ex S H) (m : RpM c S H ms vs ds) (hF : F ds = .ok a) (q : ∀ S' H' b, Fwd S H S' H' → mR c rm H S' H' b a → Q b H') : spD c.K c.cm ms rm F vs H Q noX := by
  refine call_rd (c := ⟨c.K, c.cm, fun _ _ _ _ => False, none, rm⟩) (σ := []) (fun _ _ _ h => h) ex (RpM.cf (c := c) (c' := ⟨c.K, c.cm, fun _ _ _ _ => False, none, rm⟩) rfl rfl m) ?_
  rw [hF]
  exact fun S' H' w b hb => q S' H' b w (by cases rm <;> exact hb)
/-- an object of the class n -/
def isCls (n : Str) : D → Bool
  | .obj c _ _ => decide (c = n)
  | _ => false
theorem of_isCls {S H : Hp} {v : V} {d : D} (ex : Ex S H) (hcn : c.cm n = some C) (h : isCls n d = true) (m : RpB c.K c.cm S H v d) : ∃ a dx fs, v = .ref a ∧ H a = some (.ins C dx fs) := by
  cases d with
  | obj c' ns vs =>
    have hc : c' = n := of_decide_eq_true h
    subst hc
    obtain ⟨q, C', dx, fs, rfl, h1, h2, _, _⟩ := RpB.obj m ex
    rw [hcn] at h1; cases h1
    exact ⟨q, dx, fs, rfl, h2⟩
  | _ => cases h
def binO (n : Str) (F : List D → Res D) (x d : D) : Res D := if isCls n x = true ∧ isCls n d = true then (match F [x, d] with
  | .ok a => .ok a
  | _ => .bad) else .bad
theorem os_binO (hcn : c.cm n = some C) : OpS c (mR c rm) (rCmpO C (spD c.K c.cm [true, true] rm F)) (binO n F) := by
  intro σ S H x y d e Q ex hx hy p
  unfold binO at p
  split at p
  · rename_i hc
    obtain ⟨a, dx, gs, rfl, h2⟩ := of_isCls ex hcn hc.1 hx
    obtain ⟨b, dy, gs', rfl, h3⟩ := of_isCls ex hcn hc.2 hy
    split at p
    · rename_i r hF
      exact ⟨a, dx, gs, b, dy, gs', rfl, rfl, h2, h3, calm_sp (ds := [d, e]) ex ⟨hx, hy, trivial⟩ hF fun S' H' v w hb => p S' H' w v hb⟩
    · exact p.elim
  · exact p.elim
def dStar (f : Rho → Res D) (fs : Rho → Res (List D)) : Rho → Res (List D) := fun r => (f r).bind fun d => (items d).bind fun xs => (fs r).bind fun ys => .ok (xs ++ ys)
def zipL : List D → Res (List D)
  | [.lst x, .lst y] => .ok (pairs x y)
  | _ => .bad
end
end Dx
end S_DxO
section S_DxP
set_option Elab.async false
set_option linter.all false
set_option maxRecDepth 100000
set_option maxHeartbeats 2000000
namespace Dx
open PySem L2 ItX
open PyProof.Rows hiding St
end Dx
end S_DxP
section S_DxM
set_option Elab.async false
set_option linter.all false
set_option maxRecDepth 100000
namespace Dx
open PySem L2
def Rs {α : Type} (x : Res α) (Q : α → Prop) (E : Str → List Str → List D → Prop) : Prop := match x with
  | .ok a => Q a
  | .err n ns vs => E n ns vs
  | .bad => False
def nE : Str → List Str → List D → Prop := fun _ _ _ => False
def nR : Rho → Prop := fun _ => False
def Ss (o : SR) (N : Rho → Prop) (R : D → Prop) (B C : Rho → Prop) (E : Rho → Str → List Str → List D → Prop) : Prop := match o with
  | .nx r => N r
  | .rt d => R d
  | .bk r => B r
  | .ct r => C r
  | .er r n ns vs => E r n ns vs
  | .bad => False
section
variable {α β : Type} {Q Q' : α → Prop} {E E' : Str → List Str → List D → Prop}
theorem Rs.imp {x : Res α} (h : Rs x Q nE) (k : ∀ a, Q a → Q' a) : Rs x Q' E := by
  cases x with
  | ok a => exact k a h
  | err n ns vs => exact h.elim
  | bad => exact h.elim
theorem Rs.impE {x : Res α} (h : Rs x Q E) (k : ∀ a, Q a → Q' a) (l : ∀ n ns vs, E n ns vs → E' n ns vs) : Rs x Q' E' := by
  cases x with
  | ok a => exact k a h
  | err n ns vs => exact l _ _ _ h
  | bad => exact h.elim
theorem Rs.of {x : Res α} {a : α} (h : x = .ok a) (q : Q a) : Rs x Q E := by rw [h]; exact q
theorem Rs.eq {x : Res α} {a : α} (h : Rs x (fun b => b = a) nE) : x = .ok a := by
  cases x with
  | ok b => exact congrArg _ h
  | err n ns vs => exact h.elim
  | bad => exact h.elim
theorem Rs.get {x : Res α} (h : Rs x Q nE) : ∃ a, x = .ok a ∧ Q a := by
  cases x with
  | ok a => exact ⟨a, rfl, h⟩
  | err n ns vs => exact h.elim
  | bad => exact h.elim
theorem Rs.bind {x : Res β} {k : β → Res α} (h : Rs x (fun b => Rs (k b) Q E) E) : Rs (x.bind k) Q E := by
  cases x with
  | ok a => exact h
  | err n ns vs => exact h
  | bad => exact h
theorem rs_ok {a : α} (q : Q a) : Rs (.ok a) Q E := q
theorem rs_guard {p : Prop} {x : Res α} (h : p) (k : Rs x Q E) : Rs (guard p x) Q E := by rw [guard_pos h]; exact k
end
section
variable {Q : D → Prop} {E : Str → List Str → List D → Prop} {r : Rho} {f f1 f2 f3 : Rho → Res D} {fs : Rho → Res (List D)} {t u : Rho → Res Bool} {d : D} {i : Nat}
theorem rs_var (h : r[i]? = some (some d)) (q : Q d) : Rs (dVar i r) Q E := by unfold dVar; rw [h]; exact q
theorem rs_c (q : Q d) : Rs (dC d r) Q E := q
theorem rs_op {g : D → D → Res D} (h : Rs (f1 r) (fun a => Rs (f2 r) (fun b => Rs (g a b) Q E) E) E) : Rs (dOp g f1 f2 r) Q E := Rs.bind (h.impE (fun a q => Rs.bind q) fun _ _ _ z => z)
theorem rs_str {g : D → D → Res D} (h : Rs (f1 r) (fun a => Rs (asS a) (fun _ => Rs (f2 r) (fun b => Rs (g a b) Q E) E) E) E) : Rs (dStr g f1 f2 r) Q E := Rs.bind (h.impE (fun a q => Rs.bind (q.impE (fun _ q => Rs.bind q) fun _ _ _ z => z)) fun _ _ _ z => z)
theorem rs_asS {z : Str} {Q : Str → Prop} (q : Q z) : Rs (asS (.str z)) Q E := q
theorem rs_un {g : D → Res D} (h : Rs (f r) (fun a => Rs (g a) Q E) E) : Rs (dUn g f r) Q E := Rs.bind h
theorem rs_nil {Q : List D → Prop} (q : Q []) : Rs (dNil r) Q E := q
theorem rs_cons {Q : List D → Prop} (h : Rs (f r) (fun x => Rs (fs r) (fun xs => Q (x :: xs)) E) E) : Rs (dCons f fs r) Q E := Rs.bind (h.impE (fun a q => Rs.bind q) fun _ _ _ z => z)
theorem rs_call {g : List D → Res D} (h : Rs (fs r) (fun ds => Rs (g ds) Q E) E) : Rs (dCall g fs r) Q E := Rs.bind h
theorem rs_tup (h : Rs (fs r) (fun ds => ds.length ≤ sizeLine ∧ Q (.tup ds)) E) : Rs (dTup fs r) Q E := Rs.bind (h.impE (fun ds q => rs_guard q.1 q.2) fun _ _ _ z => z)
theorem rs_lst (h : Rs (fs r) (fun ds => ds.length ≤ sizeLine ∧ Q (.lst ds)) E) : Rs (dLst fs r) Q E := Rs.bind (h.impE (fun ds q => rs_guard q.1 q.2) fun _ _ _ z => z)
theorem rs_T {Q : Bool → Prop} (h : Rs (f r) (fun d => Rs (asB d) Q E) E) : Rs (dT f r) Q E := Rs.bind h
theorem rs_asB {b : Bool} {Q : Bool → Prop} (q : Q b) : Rs (asB (.bl b)) Q E := q
theorem rs_asI {b : Int} {Q : Int → Prop} (q : Q b) : Rs (asI (.int b)) Q E := q
theorem rs_not {Q : Bool → Prop} (h : Rs (t r) (fun b => Q (!b)) E) : Rs (dNot t r) Q E := Rs.bind h
theorem rs_and {Q : Bool → Prop} (h : Rs (t r) (fun a => Rs (u r) (fun b => Q (a && b)) nE) E) : Rs (dAnd t u r) Q E := Rs.bind (h.impE (fun a q => by
  cases a
  · obtain ⟨b, _, q⟩ := q.get
    exact q
  · exact q.impE (fun _ z => z) fun _ _ _ z => z.elim) fun _ _ _ z => z)
theorem rs_or {Q : Bool → Prop} (h : Rs (t r) (fun a => Rs (u r) (fun b => Q (a || b)) nE) E) : Rs (dOr t u r) Q E := Rs.bind (h.impE (fun a q => by
  cases a
  · exact q.impE (fun _ z => z) fun _ _ _ z => z.elim
  · obtain ⟨b, _, q⟩ := q.get
    exact q) fun _ _ _ z => z)
theorem rs_andc {Q : Bool → Prop} (h : Rs (t r) (fun a => (a = true → Rs (u r) Q E) ∧ (a = false → Q false)) E) : Rs (dAnd t u r) Q E := Rs.bind (h.impE (fun a q => by
  cases a
  · exact q.2 rfl
  · exact q.1 rfl) fun _ _ _ z => z)
theorem rs_orc {Q : Bool → Prop} (h : Rs (t r) (fun a => (a = true → Q true) ∧ (a = false → Rs (u r) Q E)) E) : Rs (dOr t u r) Q E := Rs.bind (h.impE (fun a q => by
  cases a
  · exact q.2 rfl
  · exact q.1 rfl) fun _ _ _ z => z)
theorem rs_andV (h : Rs (f1 r) (fun a => Rs (asB a) (fun a => Rs (f2 r) (fun b => Rs (asB b) (fun b => Q (.bl (a && b))) nE) nE) E) E) : Rs (dAndV f1 f2 r) Q E := Rs.bind (h.impE (fun a q => Rs.bind (q.impE (fun a q => by
  obtain ⟨b, e, q⟩ := q.get
  cases b with
  | bl b =>
    cases a
    · exact q
    · exact Rs.of e q
  | _ => exact q.elim) fun _ _ _ z => z)) fun _ _ _ z => z)
theorem rs_orV (h : Rs (f1 r) (fun a => Rs (asB a) (fun a => Rs (f2 r) (fun b => Rs (asB b) (fun b => Q (.bl (a || b))) nE) nE) E) E) : Rs (dOrV f1 f2 r) Q E := Rs.bind (h.impE (fun a q => Rs.bind (q.impE (fun a q => by
  obtain ⟨b, e, q⟩ := q.get
  cases b with
  | bl b =>
    cases a
    · exact Rs.of e q
    · exact q
  | _ => exact q.elim) fun _ _ _ z => z)) fun _ _ _ z => z)
theorem rs_andVc (h : Rs (f1 r) (fun a => Rs (asB a) (fun a => (a = true → Rs (f2 r) Q E) ∧ (a = false → Q (.bl false))) E) E) : Rs (dAndV f1 f2 r) Q E := Rs.bind (h.impE (fun a q => Rs.bind (q.impE (fun a q => by
  cases a
  · exact q.2 rfl
  · exact q.1 rfl) fun _ _ _ z => z)) fun _ _ _ z => z)
theorem rs_orVc (h : Rs (f1 r) (fun a => Rs (asB a) (fun a => (a = true → Q (.bl true)) ∧ (a = false → Rs (f2 r) Q E)) E) E) : Rs (dOrV f1 f2 r) Q E := Rs.bind (h.impE (fun a q => Rs.bind (q.impE (fun a q => by
  cases a
  · exact q.2 rfl
  · exact q.1 rfl) fun _ _ _ z => z)) fun _ _ _ z => z)
theorem rs_notV (h : Rs (f r) (fun a => Rs (asB a) (fun b => Q (.bl (!b))) E) E) : Rs (dNotV f r) Q E := Rs.bind (h.impE (fun a q => Rs.bind q) fun _ _ _ z => z)
theorem rs_ifx {α : Type} {Q : α → Prop} {f g : Rho → Res α} (h : Rs (t r) (fun b => (b = true → Rs (f r) Q E) ∧ (b = false → Rs (g r) Q E)) E) : Rs (dIf t f g r) Q E := Rs.bind (h.impE (fun a q => by
  cases a
  · exact q.2 rfl
  · exact q.1 rfl) fun _ _ _ z => z)
theorem rs_tru {Q : Bool → Prop} (h : Rs (f r) (fun d => Rs (truB d) Q E) E) : Rs (dTru f r) Q E := Rs.bind h
theorem rs_truB {b : Bool} {Q : Bool → Prop} (q : Q b) : Rs (truB (.bl b)) Q E := q
theorem rs_truI {b : Int} {Q : Bool → Prop} (q : Q (b != 0)) : Rs (truB (.int b)) Q E := q
theorem rs_truL {ds : List D} {Q : Bool → Prop} (q : Q (!ds.isEmpty)) : Rs (truB (.lst ds)) Q E := q
theorem rs_truT {ds : List D} {Q : Bool → Prop} (q : Q (!ds.isEmpty)) : Rs (truB (.tup ds)) Q E := q
theorem rs_truN {Q : Bool → Prop} (q : Q false) : Rs (truB .non) Q E := q
theorem rs_chain {g g' : D → D → Res D} (h : Rs (f1 r) (fun x => Rs (f2 r) (fun y => Rs (g x y) (fun z => Rs (asB z) (fun a => Rs (f3 r) (fun w => Rs (g' y w) (fun e => Rs (asB e) (fun b => Q (.bl (a && b))) nE) nE) nE) E) E) E) E) : Rs (dChain g g' f1 f2 f3 r) Q E :=
  Rs.bind (h.impE (fun x q => Rs.bind (q.impE (fun y q => Rs.bind (q.impE (fun z q => Rs.bind (q.impE (fun a q => by
    obtain ⟨w, e1, q⟩ := q.get
    obtain ⟨e, e2, q⟩ := q.get
    cases e with
    | bl b =>
      cases a
      · exact q
      · exact Rs.bind (Rs.of e1 (Rs.of e2 q))
    | _ => exact q.elim) fun _ _ _ z => z)) fun _ _ _ z => z)) fun _ _ _ z => z)) fun _ _ _ z => z)
theorem rs_noP {Q : Option Int → Prop} (q : Q none) : Rs (dNoP r) Q E := q
theorem rs_part {Q : Option Int → Prop} (h : Rs (f r) (fun d => Rs (asI d) (fun i => Q (some i)) E) E) : Rs (dPart f r) Q E := Rs.bind (h.impE (fun a q => Rs.bind q) fun _ _ _ z => z)
theorem rs_sl {g : D → Option Int → Option Int → Res D} {fl fh : Rho → Res (Option Int)} (h : Rs (f r) (fun d => Rs (fl r) (fun l => Rs (fh r) (fun k => Rs (g d l k) Q E) E) E) E) : Rs (dSl g f fl fh r) Q E := Rs.bind (h.impE (fun a q => Rs.bind (q.impE (fun _ q => Rs.bind q) fun _ _ _ z => z)) fun _ _ _ z => z)
theorem rs_it {g : D → Res (List D)} {Q : List D → Prop} (h : Rs (f r) (fun d => Rs (g d) Q E) E) : Rs (dIt g f r) Q E := Rs.bind h
theorem rs_its {g : List D → Res (List D)} {Q : List D → Prop} (h : Rs (fs r) (fun d => Rs (g d) Q E) E) : Rs (dIts g fs r) Q E := Rs.bind h
theorem rs_yes {Q : Bool → Prop} (q : Q true) : Rs (dYes r) Q E := q
theorem rs_meth {n m : Str} {F : List D → Res D} (h : Rs (f r) (fun x => Rs (isObj n m x) (fun _ => Rs (fs r) (fun ds => Rs (F (x :: ds)) Q E) E) E) E) : Rs (dMeth n m F f fs r) Q E := Rs.bind (h.impE (fun a q => Rs.bind (q.impE (fun _ q => Rs.bind q) fun _ _ _ z => z)) fun _ _ _ z => z)
theorem rs_isObj {n m : Str} {ns : List Str} {vs : List D} {Q : Unit → Prop} (h : m ∉ ns) (q : Q ()) : Rs (isObj n m (.obj n ns vs)) Q E := by
  show Rs (if n = n ∧ m ∉ ns then .ok () else .bad) Q E
  rw [if_pos ⟨rfl, h⟩]; exact q
theorem rs_fld {n fl : Str} {ns : List Str} {vs : List D} (h : lookF ns vs fl = some d) (q : Q d) : Rs (fldD n fl (.obj n ns vs)) Q E := by
  show Rs (if n = n then (match lookF ns vs fl with | some d => .ok d | none => .bad) else .bad) Q E
  rw [if_pos rfl, h]; exact q
end
abbrev Sg (l : List Nat) : Str := ⟨l.toArray⟩
theorem ST_len (l : List Nat) : (Sg l).length = l.length := by simp [Sg, Str.length]
theorem ST_app (a b : List Nat) : Sg a ++ Sg b = Sg (a ++ b) := TL.ext_tl (by rw [TL.tl_append])
theorem ST_inj {a b : List Nat} : Sg a = Sg b ↔ a = b := ⟨fun h => congrArg TL.tl h, fun h => by rw [h]⟩
theorem ST_dec (a b : List Nat) : decide (Sg a = Sg b) = decide (a = b) := by
  by_cases h : a = b
  · subst h; simp
  · simp [h, ST_inj]
section
variable {Q : D → Prop} {E : Str → List Str → List D → Prop} {i j : Int} {a b : List Nat} {ds es : List D} {d e : D}
theorem rs_add (q : Q (.int (i + j))) : Rs (addD (.int i) (.int j)) Q E := q
theorem rs_addS (h : a.length + b.length ≤ sizeLine) (q : Q (.str (Sg (a ++ b)))) : Rs (addD (.str (Sg a)) (.str (Sg b))) Q E := rs_guard (by rw [ST_len, ST_len]; exact h) (by rw [ST_app]; exact q)
theorem rs_addT (h : ds.length + es.length ≤ sizeLine) (q : Q (.tup (ds ++ es))) : Rs (addD (.tup ds) (.tup es)) Q E := rs_guard h q
theorem rs_addLL (h : ds.length + es.length ≤ sizeLine) (q : Q (.lst (ds ++ es))) : Rs (addD (.lst ds) (.lst es)) Q E := rs_guard h q
theorem rs_addLO (h : ds.length + es.length ≤ sizeLine) (q : Q (.lst (ds ++ es))) : Rs (addL (.lst ds) (.lst es)) Q E := rs_guard h q
theorem rs_sub (q : Q (.int (i - j))) : Rs (subD (.int i) (.int j)) Q E := q
theorem rs_neg (q : Q (.int (-i))) : Rs (negD (.int i)) Q E := q
theorem rs_mul (h : smallI i ∨ smallI j) (q : Q (.int (i * j))) : Rs (mulX (.int i) (.int j)) Q E := rs_guard h q
theorem rs_fdiv (h : 0 < j ∧ j < 4611686018427387904) (q : Q (.int (i / j))) : Rs (fdivD (.int i) (.int j)) Q E := by
  show Rs (if 0 < j then guard (j < 4611686018427387904) (.ok (.int (i / j))) else _) Q E
  rw [if_pos h.1]; exact rs_guard h.2 q
theorem rs_mod (h : 0 < j) (q : Q (.int (i % j))) : Rs (modD (.int i) (.int j)) Q E := rs_guard h q
theorem rs_eqI (q : Q (.bl (decide (i = j)))) : Rs (eqD (.int i) (.int j)) Q E := q
theorem rs_neI (q : Q (.bl (!decide (i = j)))) : Rs (neD (.int i) (.int j)) Q E := q
theorem rs_eqS (q : Q (.bl (decide (a = b)))) : Rs (eqD (.str (Sg a)) (.str (Sg b))) Q E := by
  show Q (.bl (decide (Sg a = Sg b)))
  rw [ST_dec]; exact q
theorem rs_neS (q : Q (.bl (!decide (a = b)))) : Rs (neD (.str (Sg a)) (.str (Sg b))) Q E := by
  show Q (.bl (!decide (Sg a = Sg b)))
  rw [ST_dec]; exact q
theorem rs_eqB {x y : Bool} (q : Q (.bl (decide (x = y)))) : Rs (eqD (.bl x) (.bl y)) Q E := q
theorem rs_neB {x y : Bool} (q : Q (.bl (!decide (x = y)))) : Rs (neD (.bl x) (.bl y)) Q E := q
theorem rs_lt (q : Q (.bl (decide (i < j)))) : Rs (ltD (.int i) (.int j)) Q E := q
theorem rs_le (q : Q (.bl (decide (i ≤ j)))) : Rs (leD (.int i) (.int j)) Q E := q
theorem rs_gt (q : Q (.bl (decide (j < i)))) : Rs (gtD (.int i) (.int j)) Q E := q
theorem rs_ge (q : Q (.bl (decide (j ≤ i)))) : Rs (geD (.int i) (.int j)) Q E := q
theorem rs_is (q : Q (.bl (isN d))) : Rs (isD false d .non) Q E := q
theorem rs_isn (q : Q (.bl (!isN d))) : Rs (isD true d .non) Q E := q
theorem rs_inS {n : Nat} (q : Q (.bl (decide (n ∈ b)))) : Rs (inD (.str (Sg [n])) (.str (Sg b))) Q E := q
theorem rs_ninS {n : Nat} (q : Q (.bl (!decide (n ∈ b)))) : Rs (ninD (.str (Sg [n])) (.str (Sg b))) Q E := q
theorem rs_lenS (h : a.length ≤ sizeLine) (q : Q (.int a.length)) : Rs (g1 lenD [.str (Sg a)]) Q E := rs_guard (by rw [ST_len]; exact h) (by show Q _; rw [ST_len]; exact q)
theorem rs_lenL (q : Q (.int ds.length)) : Rs (g1 lenD [.lst ds]) Q E := q
theorem rs_lenF (q : Q (.int ds.length)) : Rs (g1 lenD [.fz ds]) Q E := q
theorem rs_lenT (q : Q (.int ds.length)) : Rs (g1 lenD [.tup ds]) Q E := q
theorem rs_int (q : Q (.int i)) : Rs (g1 intD [.int i]) Q E := q
theorem rs_intB {x : Bool} (q : Q (.int (if x then 1 else 0))) : Rs (g1 intD [.bl x]) Q E := q
theorem rs_abs (q : Q (.int (if i < 0 then -i else i))) : Rs (g1 absD [.int i]) Q E := q
theorem rs_listL (q : Q (.lst ds)) : Rs (g1 listD [.lst ds]) Q E := q
theorem rs_listT (q : Q (.lst ds)) : Rs (g1 listD [.tup ds]) Q E := q
theorem rs_tupL (q : Q (.tup ds)) : Rs (g1 tupleD [.lst ds]) Q E := q
theorem rs_tupT (q : Q (.tup ds)) : Rs (g1 tupleD [.tup ds]) Q E := q
theorem rs_ixL (h : atI ds i = some d) (q : Q d) : Rs (ixD (.lst ds) (.int i)) Q E := by
  show Rs (match atI ds i with | some d => Res.ok d | none => Res.bad) Q E
  rw [h]; exact q
theorem rs_ixF (h : atI ds i = some d) (q : Q d) : Rs (ixD (.fz ds) (.int i)) Q E := by
  show Rs (match atI ds i with | some d => Res.ok d | none => Res.bad) Q E
  rw [h]; exact q
theorem rs_ixT (h : atI ds i = some d) (q : Q d) : Rs (ixD (.tup ds) (.int i)) Q E := by
  show Rs (match atI ds i with | some d => Res.ok d | none => Res.bad) Q E
  rw [h]; exact q
theorem rs_ixS {n : Nat} (h : a.length ≤ sizeLine ∧ atI a i = some n) (q : Q (.str (Sg [n]))) : Rs (ixD (.str (Sg a)) (.int i)) Q E := rs_guard (by rw [ST_len]; exact h.1) (by
  show Rs (match atI a i with | some n => Res.ok (D.str ⟨#[n]⟩) | none => Res.bad) Q E
  rw [h.2]; exact q)
theorem rs_slL {lo hi : Option Int} (q : Q (.lst (cutL ds lo hi))) : Rs (slD (.lst ds) lo hi) Q E := q
theorem rs_slO {lo hi : Option Int} (q : Q (.lst (cutL ds lo hi))) : Rs (slL (.lst ds) lo hi) Q E := q
theorem rs_slT {lo hi : Option Int} (q : Q (.tup (cutL ds lo hi))) : Rs (slD (.tup ds) lo hi) Q E := q
theorem cutS_ST {lo hi : Option Int} : cutS (Sg a) lo hi = Sg (cutL a lo hi) := by
  unfold cutS cutL
  rw [ST_len]
theorem rs_slS {lo hi : Option Int} (h : a.length ≤ sizeLine) (q : Q (.str (Sg (cutL a lo hi)))) : Rs (slD (.str (Sg a)) lo hi) Q E := rs_guard (by rw [ST_len]; exact h) (by rw [cutS_ST]; exact q)
theorem rs_rng1 {n : Nat} {Q : List D → Prop} (h : n < 4611686018427387904) (q : Q (rngL 0 n)) : Rs (rng1 [.int (n : Int)]) Q E := rs_guard (by omega) (by rw [Int.toNat_natCast]; exact q)
theorem rs_itsL {Q : List D → Prop} (q : Q ds) : Rs (itemsL (.lst ds)) Q E := q
theorem rs_itsT {Q : List D → Prop} (q : Q ds) : Rs (itemsT (.tup ds)) Q E := q
theorem rs_itsS {Q : List D → Prop} (q : Q (a.map fun n => .str (Sg [n]))) : Rs (itemsS (.str (Sg a))) Q E := q
theorem rs_enL {Q : List D → Prop} (q : Q (numd 0 ds)) : Rs (enumL (.lst ds)) Q E := q
theorem rs_enT {Q : List D → Prop} (q : Q (numd 0 ds)) : Rs (enumT (.tup ds)) Q E := q
theorem rs_enS {Q : List D → Prop} (q : Q (numd 0 (a.map fun n => .str (Sg [n])))) : Rs (enumS (.str (Sg a))) Q E := q
theorem rs_isi {T n : String} {b : Bool} (h1 : tyN d = some n) (h2 : kitB n T = some b) (q : Q (.bl b)) : Rs (isiD T d) Q E := by unfold isiD; rw [h1]; dsimp only; rw [h2]; exact q
end
section
variable {N B C : Rho → Prop} {R : D → Prop} {E : Rho → Str → List Str → List D → Prop} {r : Rho} {f f1 f2 fi : Rho → Res D} {fs : Rho → Res (List D)} {t : Rho → Res Bool} {d : D} {F K : Rho → SR} {i j : Nat}
theorem Ss.imp {N' B' C' : Rho → Prop} {R' : D → Prop} {E' : Rho → Str → List Str → List D → Prop} {o : SR} (h : Ss o N R B C E) (hn : ∀ r, N r → N' r) (hr : ∀ d, R d → R' d) (hb : ∀ r, B r → B' r) (hc : ∀ r, C r → C' r) (he : ∀ r n ns vs, E r n ns vs → E' r n ns vs) : Ss o N' R' B' C' E' := by
  cases o with
  | nx r => exact hn _ h
  | rt d => exact hr _ h
  | bk r => exact hb _ h
  | ct r => exact hc _ h
  | er r n ns vs => exact he _ _ _ _ h
  | bad => exact h
theorem ss_nx (h : N r) : Ss (.nx r) N R B C E := h
theorem ss_bk (h : B r) : Ss (.bk r) N R B C E := h
theorem ss_ct (h : C r) : Ss (.ct r) N R B C E := h
theorem ss_lift {α : Type} {x : Res α} {k : α → SR} (h : Rs x (fun a => Ss (k a) N R B C E) (E r)) : Ss (liftS r x k) N R B C E := by
  cases x with
  | ok a => exact h
  | err n ns vs => exact h
  | bad => exact h
theorem ss_seq (h : Ss (F r) (fun r' => Ss (K r') N R B C E) R B C E) : Ss (seqF F K r) N R B C E := by
  unfold seqF
  cases e : F r with
  | nx r' => rw [e] at h; exact h
  | rt d => rw [e] at h; exact h
  | bk r => rw [e] at h; exact h
  | ct r => rw [e] at h; exact h
  | er r n ns vs => rw [e] at h; exact h
  | bad => rw [e] at h; exact h
theorem ss_set (h : Rs (f r) (fun d => N (r.set i (some d))) (E r)) : Ss (setF i f r) N R B C E := ss_lift h
theorem ss_ret (h : Rs (f r) R (E r)) : Ss (retF f r) N R B C E := ss_lift h
theorem ss_drop (h : Rs (f r) (fun _ => N r) (E r)) : Ss (dropF f r) N R B C E := ss_lift h
theorem ss_if (h : Rs (t r) (fun b => (b = true → Ss (F r) N R B C E) ∧ (b = false → Ss (K r) N R B C E)) (E r)) : Ss (ifF t F K r) N R B C E := ss_lift (h.impE (fun b q => by
  cases b
  · exact q.2 rfl
  · exact q.1 rfl) fun _ _ _ z => z)
theorem ss_app {ds : List D} (h1 : r[i]? = some (some (.lst ds))) (h : Rs (f r) (fun d => ds.length < sizeLine ∧ N (r.set i (some (.lst (ds ++ [d]))))) (E r)) : Ss (appF i f r) N R B C E := by
  unfold appF
  refine ss_lift (Rs.of (a := ds) (by unfold ownL; rw [h1]) (ss_lift (h.impE (fun d q => ?_) fun _ _ _ z => z)))
  rw [guardS_pos q.1]; exact q.2
theorem ss_asg {tg : D → Rho → Res Rho} (h : Rs (f r) (fun d => ∃ r', tg d r = .ok r' ∧ N r') (E r)) : Ss (asgF tg f r) N R B C E := ss_lift (h.impE (fun d q => by
  obtain ⟨r', e, q⟩ := q
  rw [e]; exact q) fun _ _ _ z => z)
theorem ss_par (h : Rs (f1 r) (fun d => Rs (f2 r) (fun e => N ((r.set i (some d)).set j (some e))) (E r)) (E r)) : Ss (parF i j f1 f2 r) N R B C E := ss_lift (rs_cons (h.impE (fun d q => rs_cons (q.impE (fun e q => rs_nil q) fun _ _ _ z => z)) fun _ _ _ z => z))
theorem ss_aug {g : D → D → Res D} (h : Rs (dVar i r) (fun x => Rs (f r) (fun y => Rs (g x y) (fun z => N (r.set i (some z))) (E r)) (E r)) (E r)) : Ss (augF i g f r) N R B C E := ss_lift (h.impE (fun x q => ss_lift (q.impE (fun y q => ss_lift q) fun _ _ _ z => z)) fun _ _ _ z => z)
theorem rs_ints {g : Int → Int → Int} {Q : D → Prop} {E : Str → List Str → List D → Prop} {i j : Int} (q : Q (.int (g i j))) : Rs (intsD g (.int i) (.int j)) Q E := q
theorem ss_fst {n fl : Str} {ns : List Str} {vs : List D} (h : Rs (f r) (fun d => r[i]? = some (some (.obj n ns vs)) ∧ ns.length < 1000 ∧ N (r.set i (some (.obj n (putN fl d ns vs).1 (putN fl d ns vs).2)))) (E r)) : Ss (fstF i n fl f r) N R B C E := ss_lift (h.impE (fun d q => by
  rw [q.1]
  show Ss (if n = n ∧ ns.length < 1000 then _ else _) N R B C E
  rw [if_pos ⟨rfl, q.2.1⟩]; exact q.2.2) fun _ _ _ z => z)
theorem ss_cut {N' : Rho → Prop} {o : SR} (M : Rho → Prop) (h : Ss o M R B C E) (k : ∀ r, M r → N' r) : Ss o N' R B C E := h.imp k (fun _ z => z) (fun _ z => z) (fun _ z => z) fun _ _ _ _ z => z
theorem ss_loop {tg : D → Rho → Res Rho} (I : Nat → Rho → Prop) : ∀ (ds : List D) (k : Nat) (r : Rho), I k r →
    (∀ i d r, ds[i]? = some d → I (k + i) r → ∃ r1, tg d r = .ok r1 ∧ Ss (F r1) (I (k + i + 1)) R N (I (k + i + 1)) E) → (∀ r, I (k + ds.length) r → N r) → Ss (loopF tg F ds r) N R B C E
  | [], k, r, h0, _, he => he r h0
  | d :: ds, k, r, h0, hs, he => by
    obtain ⟨r1, e1, h1⟩ := hs 0 d r rfl h0
    have go : ∀ r2, I (k + 1) r2 → Ss (loopF tg F ds r2) N R B C E := fun r2 h2 => ss_loop I ds (k + 1) r2 h2 (fun i d r h hi => by
      have z := hs (i + 1) d r (by simpa using h) (by rw [show k + (i + 1) = k + 1 + i from by omega]; exact hi)
      rw [show k + (i + 1) = k + 1 + i from by omega] at z
      exact z) fun r h => he r (by rw [List.length_cons, show k + (ds.length + 1) = k + 1 + ds.length from by omega]; exact h)
    rw [loopF, e1]
    dsimp only
    cases e : F r1 with
    | nx r2 => rw [e] at h1; exact go r2 h1
    | ct r2 => rw [e] at h1; exact go r2 h1
    | bk r2 => rw [e] at h1; exact h1
    | rt d => rw [e] at h1; exact h1
    | er r n ns vs => rw [e] at h1; exact h1
    | bad => rw [e] at h1; exact h1
/-- a for, by an invariant at each number of items -/
theorem ss_for {its : Rho → Res (List D)} {tg : D → Rho → Res Rho} (I : Nat → Rho → Prop) (h : Rs (its r) (fun ds => I 0 r ∧ (∀ i d r, ds[i]? = some d → I i r → ∃ r1, tg d r = .ok r1 ∧ Ss (F r1) (I (i + 1)) R N (I (i + 1)) E) ∧ ∀ r, I ds.length r → N r) (E r)) : Ss (forF its tg F r) N R B C E :=
  ss_lift (h.impE (fun ds q => ss_loop I ds 0 r q.1 (fun i d r h1 h2 => by
    have z := q.2.1 i d r h1 (by rw [Nat.zero_add] at h2; exact h2)
    rw [Nat.zero_add]; exact z) fun r h => q.2.2 r (by rw [Nat.zero_add] at h; exact h)) fun _ _ _ z => z)
theorem rngL_get {a : Int} {n i : Nat} {d : D} (h : (rngL a n)[i]? = some d) : i < n ∧ d = .int (a + (i : Int)) := by
  unfold rngL at h
  rw [List.getElem?_map] at h
  by_cases hi : i < n
  · rw [List.getElem?_range hi] at h
    cases h
    exact ⟨hi, rfl⟩
  · rw [List.getElem?_eq_none (by simp; omega)] at h
    cases h
theorem rngL_len (a : Int) (n : Nat) : (rngL a n).length = n := by unfold rngL; simp
/-- for k in range(n) -/
theorem ss_rng {m : Nat} (n : Nat) (I : Nat → Rho → Prop) (h : Rs (f r) (fun d => d = .int (n : Int)) (E r)) (hn : n < 4611686018427387904) (h0 : I 0 r) (hs : ∀ i r, i < n → I i r → Ss (F (r.set m (some (.int (i : Int))))) (I (i + 1)) R N (I (i + 1)) E) (he : ∀ r, I n r → N r) : Ss (forF (dIts rng1 (dCons f dNil)) (tgN m) F r) N R B C E :=
  ss_for I (rs_its (rs_cons (h.impE (fun d q => by
    subst q
    refine rs_nil (rs_rng1 hn ⟨h0, fun i d r h1 h2 => ?_, fun r h => he r (by rw [rngL_len] at h; exact h)⟩)
    obtain ⟨h3, rfl⟩ := rngL_get h1
    exact ⟨_, rfl, by rw [Int.zero_add]; exact hs i r h3 h2⟩) fun _ _ _ z => z)))
/-- for x in xs -/
theorem ss_each {α : Type} {m : Nat} (g : α → D) (xs : List α) (I : Nat → Rho → Prop) (h : Rs (f r) (fun d => d = .lst (xs.map g)) (E r)) (h0 : I 0 r) (hs : ∀ i x r, xs[i]? = some x → I i r → Ss (F (r.set m (some (g x)))) (I (i + 1)) R N (I (i + 1)) E) (he : ∀ r, I xs.length r → N r) : Ss (forF (dIt itemsL f) (tgN m) F r) N R B C E :=
  ss_for I (rs_it (h.impE (fun d q => by
    subst q
    refine rs_itsL ⟨h0, fun i d r h1 h2 => ?_, fun r h => he r (by rw [List.length_map] at h; exact h)⟩
    rw [List.getElem?_map] at h1
    cases hx : xs[i]? with
    | none => rw [hx] at h1; cases h1
    | some x => rw [hx] at h1; cases h1; exact ⟨_, rfl, hs i x r hx h2⟩) fun _ _ _ z => z))
theorem ss_while (n : Nat) (I : Nat → Rho → Prop) (hs : ∀ k r, I k r → Rs (t r) (fun b => (b = true → Ss (F r) (fun r' => ∃ k', k' < k ∧ I k' r') R N (fun r' => ∃ k', k' < k ∧ I k' r') E) ∧ (b = false → N r)) (E r)) : ∀ (k : Nat) (r : Rho), k < n → I k r → Ss (whileN t F n r) N R B C E := by
  induction n with
  | zero => intro k r h; omega
  | succ n ih =>
    intro k r hk h0
    rw [whileN]
    refine ss_lift ((hs k r h0).impE (fun b q => ?_) fun _ _ _ z => z)
    cases b with
    | false => exact q.2 rfl
    | true =>
      have q1 := q.1 rfl
      show Ss (if true = true then _ else _) N R B C E
      rw [if_pos rfl]
      cases e : F r with
      | nx r2 => rw [e] at q1; obtain ⟨k', h1, h2⟩ := q1; exact ih k' r2 (by omega) h2
      | ct r2 => rw [e] at q1; obtain ⟨k', h1, h2⟩ := q1; exact ih k' r2 (by omega) h2
      | bk r2 => rw [e] at q1; exact q1
      | rt d => rw [e] at q1; exact q1
      | er r n ns vs => rw [e] at q1; exact q1
      | bad => rw [e] at q1; exact q1
end
section
variable {Q : D → Prop} {E : Str → List Str → List D → Prop} {r : Rho} {f : Rho → Res D} {its : Rho → Res (List D)} {tg : D → Rho → Res Rho} {tt : Rho → Res Bool} {fe : Rho → Res D} {vs : List Nat}
theorem lc_mapX {α : Type} (c g : α → D) {rw : Rho} : ∀ xs : List α, (∀ x ∈ xs, ∃ r1, tg (c x) rw = .ok r1 ∧ tt r1 = .ok true ∧ Rs (fe r1) (fun e => e = g x) nE) → lcLoop tg tt fe rw (xs.map c) = .ok (xs.map g)
  | [], _ => rfl
  | x :: xs, h => by
    obtain ⟨r1, h1, h2, h3⟩ := h x (by simp)
    rw [List.map_cons, lcLoop, h1]
    dsimp only
    rw [h2]
    dsimp only
    rw [h3.eq]
    dsimp only
    rw [lc_mapX c g xs fun y hy => h y (by simp [hy])]
    rfl
theorem lc_fltX {α : Type} (c g : α → D) (p : α → Bool) {rw : Rho} : ∀ xs : List α, (∀ x ∈ xs, ∃ r1, tg (c x) rw = .ok r1 ∧ Rs (tt r1) (fun b => b = p x) nE ∧ (p x = true → Rs (fe r1) (fun e => e = g x) nE)) → lcLoop tg tt fe rw (xs.map c) = .ok ((xs.filter p).map g)
  | [], _ => rfl
  | x :: xs, h => by
    obtain ⟨r1, h1, h2, h3⟩ := h x (by simp)
    rw [List.map_cons, lcLoop, h1]
    dsimp only
    rw [h2.eq]
    cases e : p x with
    | true =>
      dsimp only
      rw [(h3 e).eq]
      dsimp only
      rw [lc_fltX c g p xs fun y hy => h y (by simp [hy]), List.filter_cons_of_pos e]
      rfl
    | false =>
      dsimp only
      rw [lc_fltX c g p xs fun y hy => h y (by simp [hy]), List.filter_cons_of_neg (by rw [e]; decide)]
theorem rs_lc {α : Type} (c g : α → D) (xs : List α) (hi : Rs (its r) (fun ds => ds = xs.map c) E) (hl : xs.length ≤ sizeLine) (hs : ∀ x ∈ xs, ∃ r1, tg (c x) (wipeR r vs) = .ok r1 ∧ tt r1 = .ok true ∧ Rs (fe r1) (fun e => e = g x) nE) (q : Q (.lst (xs.map g))) : Rs (dLc its tg tt fe vs r) Q E :=
  Rs.bind (hi.impE (fun ds e => by
    subst e
    refine rs_guard (by rw [List.length_map]; exact hl) ?_
    rw [lc_mapX c g xs hs]; exact q) fun _ _ _ z => z)
theorem rs_lcF {α : Type} (c g : α → D) (p : α → Bool) (xs : List α) (hi : Rs (its r) (fun ds => ds = xs.map c) E) (hl : xs.length ≤ sizeLine) (hs : ∀ x ∈ xs, ∃ r1, tg (c x) (wipeR r vs) = .ok r1 ∧ Rs (tt r1) (fun b => b = p x) nE ∧ (p x = true → Rs (fe r1) (fun e => e = g x) nE)) (q : Q (.lst ((xs.filter p).map g))) : Rs (dLc its tg tt fe vs r) Q E :=
  Rs.bind (hi.impE (fun ds e => by
    subst e
    refine rs_guard (by rw [List.length_map]; exact hl) ?_
    rw [lc_fltX c g p xs hs]; exact q) fun _ _ _ z => z)
theorem lc_someX {α β : Type} (c : α → D) (g : β → D) (P : Nat → α → β → Prop) {rw : Rho} : ∀ (xs : List α) (k : Nat), (∀ i x, xs[i]? = some x → ∃ r1, tg (c x) rw = .ok r1 ∧ tt r1 = .ok true ∧ Rs (fe r1) (fun e => ∃ y, e = g y ∧ P (k + i) x y) nE) →
    ∃ ys : List β, lcLoop tg tt fe rw (xs.map c) = .ok (ys.map g) ∧ ys.length = xs.length ∧ ∀ i x y, xs[i]? = some x → ys[i]? = some y → P (k + i) x y
  | [], k, _ => ⟨[], rfl, rfl, fun i x y h => by simp at h⟩
  | x :: xs, k, h => by
    obtain ⟨r1, h1, h2, h3⟩ := h 0 x rfl
    obtain ⟨e, h4, y, rfl, h5⟩ := h3.get
    obtain ⟨ys, a1, a2, a3⟩ := lc_someX c g P xs (k + 1) fun i z hz => by
      have := h (i + 1) z (by simpa using hz)
      rw [show k + (i + 1) = k + 1 + i from by omega] at this
      exact this
    refine ⟨y :: ys, ?_, by simp [a2], fun i x' y' hx hy => ?_⟩
    · rw [List.map_cons, lcLoop, h1]
      dsimp only
      rw [h2]
      dsimp only
      rw [h4]
      dsimp only
      rw [a1]
      rfl
    · cases i with
      | zero => simp at hx hy; subst hx hy; exact h5
      | succ i =>
        have := a3 i x' y' (by simpa using hx) (by simpa using hy)
        rw [show k + (i + 1) = k + 1 + i from by omega]
        exact this
/-- a comprehension of which one knows only what each item is like -/
theorem rs_lcS {α β : Type} (c : α → D) (g : β → D) (P : Nat → α → β → Prop) (xs : List α) (hi : Rs (its r) (fun ds => ds = xs.map c) E) (hl : xs.length ≤ sizeLine) (hs : ∀ i x, xs[i]? = some x → ∃ r1, tg (c x) (wipeR r vs) = .ok r1 ∧ tt r1 = .ok true ∧ Rs (fe r1) (fun e => ∃ y, e = g y ∧ P i x y) nE)
    (q : ∀ ys : List β, ys.length = xs.length → (∀ i x y, xs[i]? = some x → ys[i]? = some y → P i x y) → Q (.lst (ys.map g))) : Rs (dLc its tg tt fe vs r) Q E :=
  Rs.bind (hi.impE (fun ds e => by
    subst e
    refine rs_guard (by rw [List.length_map]; exact hl) ?_
    obtain ⟨ys, a1, a2, a3⟩ := lc_someX c g P xs 0 fun i x hx => by
      have := hs i x hx
      rw [Nat.zero_add]; exact this
    rw [a1]
    exact q ys a2 fun i x y hx hy => by have := a3 i x y hx hy; rw [Nat.zero_add] at this; exact this) fun _ _ _ z => z)
theorem rng0_map (n : Nat) : rngL 0 n = (List.range n).map fun (i : Nat) => D.int (i : Int) := by
  unfold rngL
  refine List.map_congr_left fun k _ => ?_
  rw [Int.zero_add]
/-- range(n) as the items of a comprehension -/
theorem rs_rngC {n : Nat} (h : Rs (f r) (fun d => d = .int (n : Int)) E) (hn : n < 4611686018427387904) : Rs (dIts rng1 (dCons f dNil) r) (fun ds => ds = (List.range n).map fun (i : Nat) => D.int (i : Int)) E :=
  rs_its (rs_cons (h.impE (fun d q => by subst q; exact rs_nil (rs_rng1 hn (rng0_map n))) fun _ _ _ z => z))
theorem rs_run {n : Nat} {F : Rho → SR} {as : List D} (h : Ss (F (startR n as)) (fun _ => Q .non) Q nR nR (fun _ => E)) : Rs (runF n false F as) Q E := by
  unfold runF
  cases e : F (startR n as) with
  | nx r => rw [e] at h; exact h
  | rt d => rw [e] at h; exact h
  | bk r => rw [e] at h; exact h.elim
  | ct r => rw [e] at h; exact h.elim
  | er r n ns vs => rw [e] at h; exact h
  | bad => rw [e] at h; exact h.elim
theorem rs_runI {n : Nat} {cls : Str} {F : Rho → SR} {as : List D} (h : Ss (F (startI n cls as)) (fun r => ∃ d, r[0]? = some (some d) ∧ Q d) (fun _ => False) nR nR (fun _ => E)) : Rs (runI n cls F as) Q E := by
  unfold runI
  cases e : F (startI n cls as) with
  | nx r => rw [e] at h; obtain ⟨d, h1, h2⟩ := h; dsimp only; rw [h1]; exact h2
  | rt d => rw [e] at h; exact h.elim
  | bk r => rw [e] at h; exact h.elim
  | ct r => rw [e] at h; exact h.elim
  | er r n ns vs => rw [e] at h; exact h
  | bad => rw [e] at h; exact h.elim
end
end Dx
namespace Dx
open PySem L2
theorem sz5 : (100000 : Nat) ≤ sizeLine := by decide
theorem small_of {i : Int} (h : -1000000000000 < i) (h' : i < 1000000000000) : smallI i := by unfold smallI; omega
def Fit : List Int → List Int → Prop
  | [], [] => True
  | v :: vs, l :: ls => 0 ≤ v ∧ v < l ∧ Fit vs ls
  | _, _ => False
theorem Fit.cons {vs : List Int} {l : Int} {ls : List Int} (h : Fit vs (l :: ls)) : ∃ v us, vs = v :: us ∧ 0 ≤ v ∧ v < l ∧ Fit us ls := by
  cases vs with
  | nil => exact h.elim
  | cons v us => exact ⟨v, us, rfl, h⟩
theorem Fit.nil {vs : List Int} (h : Fit vs []) : vs = [] := by
  cases vs with
  | nil => rfl
  | cons v us => exact h.elim
theorem Fit.len : ∀ {vs ls : List Int}, Fit vs ls → vs.length = ls.length
  | [], [], _ => rfl
  | v :: vs, l :: ls, h => by simp [Fit.len h.2.2]
  | [], _ :: _, h => h.elim
  | _ :: _, [], h => h.elim
theorem Fit.snoc : ∀ {vs ls : List Int} {v l : Int}, Fit vs ls → 0 ≤ v → v < l → Fit (vs ++ [v]) (ls ++ [l])
  | [], [], v, l, _, h1, h2 => ⟨h1, h2, trivial⟩
  | a :: vs, b :: ls, v, l, h, h1, h2 => ⟨h.1, h.2.1, Fit.snoc h.2.2 h1 h2⟩
  | [], _ :: _, _, _, h, _, _ => h.elim
  | _ :: _, [], _, _, h, _, _ => h.elim
theorem Fit.get : ∀ {vs ls : List Int} {k : Nat} {l : Int}, Fit vs ls → ls[k]? = some l → ∃ v, vs[k]? = some v ∧ 0 ≤ v ∧ v < l
  | [], [], _, _, _, h => by simp at h
  | v :: vs, l :: ls, 0, l', h, e => by simp at e; subst e; exact ⟨v, by simp, h.1, h.2.1⟩
  | v :: vs, l :: ls, k + 1, l', h, e => by
    obtain ⟨w, h1, h2⟩ := Fit.get (k := k) h.2.2 (by simpa using e)
    exact ⟨w, by simpa using h1, h2⟩
  | [], _ :: _, _, _, h, _ => h.elim
  | _ :: _, [], _, _, h, _ => h.elim
abbrev iL (ns : List Int) : D := .lst (ns.map D.int)
theorem take_snoc {α : Type} {xs : List α} {i : Nat} {x : α} (h : xs[i]? = some x) : xs.take (i + 1) = xs.take i ++ [x] := by
  rw [List.take_add_one, h]; rfl
end Dx
end S_DxM
section S_DxN
set_option Elab.async false
set_option linter.all false
set_option maxRecDepth 100000
namespace Dx
open PySem L2
def endB (a b : List Nat) : Bool := decide (b.length ≤ a.length) && decide (a.drop (a.length - b.length) = b)
def startB (a b : List Nat) : Bool := decide (b.length ≤ a.length) && decide (a.take b.length = b)
theorem beq_dec (a b : List Nat) : (a == b) = decide (a = b) := by
  by_cases h : a = b
  · subst h; simp
  · simp [h]
theorem end_ST (a b : List Nat) : Txt.endswith (Sg a) (Sg b) = endB a b := by
  unfold Txt.endswith endB
  rw [PySem.StrLaws.subAt_eq, ST_len, ST_len, Nat.zero_add]
  show (decide (b.length ≤ a.length) && ((a.drop (a.length - b.length)).take b.length == b)) = _
  by_cases h : b.length ≤ a.length
  · rw [List.take_of_length_le (by rw [List.length_drop]; omega), beq_dec]
  · rw [decide_eq_false h]; rfl
theorem start_ST (a b : List Nat) : Txt.startswith (Sg a) (Sg b) = startB a b := by
  unfold Txt.startswith startB
  rw [PySem.StrLaws.subAt_eq, ST_len, ST_len, Nat.zero_add]
  show (decide (b.length ≤ a.length) && ((a.drop 0).take b.length == b)) = _
  rw [List.drop_zero, beq_dec]
/-- split at one sign -/
abbrev spc (c : Nat) (a : List Nat) : List (List Nat) := TL.spl [c] 0 [] a
theorem split_ST (a : List Nat) (c : Nat) (hc : c < 256) : Txt.split (Sg a) (Sg [c]) = (spc c a).map Sg := by
  refine TL.map_tl_inj ?_
  rw [TL.split_spl _ _ (by show [c] ≠ []; simp) (TL.kind_ok (by show #[c].all _ = true; simp [hc])), List.map_map]
  show spc c a = _
  rw [show TL.tl ∘ Sg = id from rfl, List.map_id]
theorem pre1 (c x : Nat) (r : List Nat) : TL.pre [c] (x :: r) = decide (x = c) := by
  unfold TL.pre
  show ([x] == [c]) = _
  rw [beq_dec]
  by_cases h : x = c
  · subst h; simp
  · simp [h]
theorem spl_cons (c x : Nat) (acc r : List Nat) : TL.spl [c] 0 acc (x :: r) = if x = c then acc :: TL.spl [c] 0 [] r else TL.spl [c] 0 (acc ++ [x]) r := by
  by_cases h : x = c
  · rw [if_pos h, TL.spl_hit (by rw [pre1]; exact decide_eq_true h)]; rfl
  · rw [if_neg h, TL.spl_miss (by rw [pre1]; exact decide_eq_false h)]
theorem spl_pref (c : Nat) : ∀ (a acc r : List Nat), c ∉ a → TL.spl [c] 0 acc (a ++ r) = TL.spl [c] 0 (acc ++ a) r
  | [], acc, r, _ => by simp
  | x :: a, acc, r, h => by
    have hx : x ≠ c := fun e => h (by simp [e])
    rw [List.cons_append, spl_cons, if_neg hx, spl_pref c a _ r fun z => h (by simp [z])]
    simp
theorem spc_none {c : Nat} {a : List Nat} (ha : c ∉ a) : spc c a = [a] := by
  have := spl_pref c a [] [] ha
  rw [List.append_nil, TL.spl_nil] at this
  exact this
section
variable {Q : D → Prop} {E : Str → List Str → List D → Prop} {a b : List Nat}
theorem rs_end (q : Q (.bl (endB a b))) : Rs (endD (.str (Sg a)) (.str (Sg b))) Q E := by
  show Q (.bl (Txt.endswith (Sg a) (Sg b)))
  rw [end_ST]; exact q
theorem rs_start (q : Q (.bl (startB a b))) : Rs (startD (.str (Sg a)) (.str (Sg b))) Q E := by
  show Q (.bl (Txt.startswith (Sg a) (Sg b)))
  rw [start_ST]; exact q
theorem rs_split {c : Nat} (h : c < 256 ∧ a.length + 2 ≤ sizeLine) (q : Q (.lst ((spc c a).map fun l => .str (Sg l)))) : Rs (splitD (.str (Sg a)) (.str (Sg [c]))) Q E := by
  refine rs_guard ⟨rfl, by rw [ST_len]; exact h.2⟩ ?_
  show Q (.lst (strsD (Txt.split (Sg a) (Sg [c]))))
  rw [split_ST a c h.1]
  unfold strsD
  rw [List.map_map]; exact q
end
section
variable {Q : D → Prop} {E : Str → List Str → List D → Prop}
theorem rs_isi_non_bool  (q : Q (.bl false)) : Rs (isiD "bool" .non) Q E := rs_isi rfl (by decide +kernel) q
theorem rs_isi_non_int  (q : Q (.bl false)) : Rs (isiD "int" .non) Q E := rs_isi rfl (by decide +kernel) q
theorem rs_isi_non_str  (q : Q (.bl false)) : Rs (isiD "str" .non) Q E := rs_isi rfl (by decide +kernel) q
theorem rs_isi_non_tuple  (q : Q (.bl false)) : Rs (isiD "tuple" .non) Q E := rs_isi rfl (by decide +kernel) q
theorem rs_isi_non_list  (q : Q (.bl false)) : Rs (isiD "list" .non) Q E := rs_isi rfl (by decide +kernel) q
theorem rs_isi_bl_bool {x : Bool} (q : Q (.bl true)) : Rs (isiD "bool" (.bl x)) Q E := rs_isi rfl (by decide +kernel) q
theorem rs_isi_bl_int {x : Bool} (q : Q (.bl true)) : Rs (isiD "int" (.bl x)) Q E := rs_isi rfl (by decide +kernel) q
theorem rs_isi_bl_str {x : Bool} (q : Q (.bl false)) : Rs (isiD "str" (.bl x)) Q E := rs_isi rfl (by decide +kernel) q
theorem rs_isi_bl_tuple {x : Bool} (q : Q (.bl false)) : Rs (isiD "tuple" (.bl x)) Q E := rs_isi rfl (by decide +kernel) q
theorem rs_isi_bl_list {x : Bool} (q : Q (.bl false)) : Rs (isiD "list" (.bl x)) Q E := rs_isi rfl (by decide +kernel) q
theorem rs_isi_int_bool {x : Int} (q : Q (.bl false)) : Rs (isiD "bool" (.int x)) Q E := rs_isi rfl (by decide +kernel) q
theorem rs_isi_int_int {x : Int} (q : Q (.bl true)) : Rs (isiD "int" (.int x)) Q E := rs_isi rfl (by decide +kernel) q
theorem rs_isi_int_str {x : Int} (q : Q (.bl false)) : Rs (isiD "str" (.int x)) Q E := rs_isi rfl (by decide +kernel) q
theorem rs_isi_int_tuple {x : Int} (q : Q (.bl false)) : Rs (isiD "tuple" (.int x)) Q E := rs_isi rfl (by decide +kernel) q
theorem rs_isi_int_list {x : Int} (q : Q (.bl false)) : Rs (isiD "list" (.int x)) Q E := rs_isi rfl (by decide +kernel) q
theorem rs_isi_str_bool {x : Str} (q : Q (.bl false)) : Rs (isiD "bool" (.str x)) Q E := rs_isi rfl (by decide +kernel) q
theorem rs_isi_str_int {x : Str} (q : Q (.bl false)) : Rs (isiD "int" (.str x)) Q E := rs_isi rfl (by decide +kernel) q
theorem rs_isi_str_str {x : Str} (q : Q (.bl true)) : Rs (isiD "str" (.str x)) Q E := rs_isi rfl (by decide +kernel) q
theorem rs_isi_str_tuple {x : Str} (q : Q (.bl false)) : Rs (isiD "tuple" (.str x)) Q E := rs_isi rfl (by decide +kernel) q
theorem rs_isi_str_list {x : Str} (q : Q (.bl false)) : Rs (isiD "list" (.str x)) Q E := rs_isi rfl (by decide +kernel) q
theorem rs_isi_lst_bool {x : List D} (q : Q (.bl false)) : Rs (isiD "bool" (.lst x)) Q E := rs_isi rfl (by decide +kernel) q
theorem rs_isi_lst_int {x : List D} (q : Q (.bl false)) : Rs (isiD "int" (.lst x)) Q E := rs_isi rfl (by decide +kernel) q
theorem rs_isi_lst_str {x : List D} (q : Q (.bl false)) : Rs (isiD "str" (.lst x)) Q E := rs_isi rfl (by decide +kernel) q
theorem rs_isi_lst_tuple {x : List D} (q : Q (.bl false)) : Rs (isiD "tuple" (.lst x)) Q E := rs_isi rfl (by decide +kernel) q
theorem rs_isi_lst_list {x : List D} (q : Q (.bl true)) : Rs (isiD "list" (.lst x)) Q E := rs_isi rfl (by decide +kernel) q
theorem rs_isi_tup_bool {x : List D} (q : Q (.bl false)) : Rs (isiD "bool" (.tup x)) Q E := rs_isi rfl (by decide +kernel) q
theorem rs_isi_tup_int {x : List D} (q : Q (.bl false)) : Rs (isiD "int" (.tup x)) Q E := rs_isi rfl (by decide +kernel) q
theorem rs_isi_tup_str {x : List D} (q : Q (.bl false)) : Rs (isiD "str" (.tup x)) Q E := rs_isi rfl (by decide +kernel) q
theorem rs_isi_tup_tuple {x : List D} (q : Q (.bl true)) : Rs (isiD "tuple" (.tup x)) Q E := rs_isi rfl (by decide +kernel) q
theorem rs_isi_tup_list {x : List D} (q : Q (.bl false)) : Rs (isiD "list" (.tup x)) Q E := rs_isi rfl (by decide +kernel) q
end
end Dx
end S_DxN
section S_DxQ
set_option Elab.async false
set_option linter.all false
set_option maxRecDepth 100000
namespace Dx
open PySem L2
section
variable {Q : D → Prop} {E : Str → List Str → List D → Prop} {r : Rho} {f f1 : Rho → Res D} {fs : Rho → Res (List D)} {n fl gl : Str} {ns : List Str} {vs ds es : List D} {F : List D → Res D} {x d : D}
theorem rs_star {Q : List D → Prop} (h : Rs (f r) (fun d => Rs (items d) (fun xs => Rs (fs r) (fun ys => Q (xs ++ ys)) E) E) E) : Rs (dStar f fs r) Q E := Rs.bind (h.impE (fun a q => Rs.bind (q.impE (fun _ q => Rs.bind q) fun _ _ _ z => z)) fun _ _ _ z => z)
theorem rs_itemsL {Q : List D → Prop} (q : Q ds) : Rs (items (.lst ds)) Q E := q
theorem rs_itemsT {Q : List D → Prop} (q : Q ds) : Rs (items (.tup ds)) Q E := q
theorem rs_zipL {Q : List D → Prop} (q : Q (pairs ds es)) : Rs (zipL [.lst ds, .lst es]) Q E := q
theorem rs_zipS {a b : List Nat} {Q : List D → Prop} (q : Q (pairs (a.map fun n => .str (Sg [n])) (b.map fun n => .str (Sg [n])))) : Rs (zipS [.str (Sg a), .str (Sg b)]) Q E := q
theorem isCls_self : isCls n (.obj n ns vs) = true := by unfold isCls; exact decide_eq_true rfl
end
end Dx
end S_DxQ
section S_DxR
set_option Elab.async false
set_option linter.all false
set_option maxRecDepth 100000
set_option maxHeartbeats 2000000
namespace Dx
open PySem L2 ItX
open PyProof.Rows hiding St
def tyAll : List String := ["NoneType", "bool", "int", "str", "list", "tuple", "dict"]
structure IsC (K : PySem.W.Frag) (C : Addr) : Prop where
  cl : Cls K C
  ha : PySem.W.findIn K (.ref C) "__class__" = some (some (.builtin "object.__class__"))
  hn : PySem.W.specialIn K (.builtin "object.__class__") "__get__" = some (some (.builtin "getset_descriptor.__get__"))
  tk : PySem.W.takesIn K (.builtin "object.__class__") = some true
  hm : PySem.W.mroIn K C (.type "object") = some true
  self : PySem.W.kitOne K (.ref C) (.ref C) = some true
  no : ∀ t ∈ tyAll, PySem.W.kitOne K (.type t) (.ref C) = some false
theorem tyN_all {d : D} {t : String} (h : tyN d = some t) : t ∈ tyAll := by
  cases d <;> cases h <;> decide
def isiO (n : Str) (d : D) : Res D := if isCls n d = true then .ok (.bl true) else match tyN d with
  | some _ => .ok (.bl false)
  | none => .bad
section
variable {X : Cx} {c : Cf} {L G G' : List Ow} {f f1 f2 : Rho → Res D} {e o a b : Expr} {es : List Expr} {pos apos p : Pos} {fs : Rho → Res (List D)} {n : Str} {C : Addr} {F : List D → Res D} {rm : Bool} {k : Nat} {fa : Addr} {fd : FuncData} {ps : List Str}
theorem ty_ins {H : Hp} {q dx : Addr} {gs : List (Str × V)} (ic : IsC X.K C) (h : H q = some (.ins C dx gs)) : TyX X.K H (.ref q) (.ref C) := .base (.ins h ic.cl ic.ha ic.hn ic.tk ic.hm)
theorem de_isO {x : Str} {pT : Pos} (hcn : c.cm n = some C) (ic : IsC X.K C) (hm : X.mg "isinstance" = none) (hg : Gl X "isinstance") (gC : Gl X x) (mC : X.mg x = some (.ref C)) (ha : PE X e (tR c G f)) (hK : c.K = X.K := by rfl) (hd : (x == ("__debug__" : Str)) = false := by decide)
    (hs1 : starEach [e, .Name x pT] X.env = (false, eval e X.env) :: starEach [.Name x pT] X.env := by rfl) (hs2 : starEach [.Name x pT] X.env = (false, eval (.Name x pT) X.env) :: starEach [] X.env := by rfl) (hpl : (backTo pos (starEach [.Name x pT] X.env)).any (·.1) = false := by rfl) :
    PE X (.Call (.Name "isinstance" p) [e, .Name x pT] [] pos) (tV c G (dUn (isiO n) f)) := by
  have hT : PE X (.Name x pT) (tC (.ref C)) := pe_glob gC mC rfl hd
  refine pe_imp (pe_callB call_isi hg hm (by decide +kernel) (pa_cons ha (pa_cons hT pa_nil hs2) hs1) (he := hs1) (hpl := hpl)) fun σ H Q ⟨S0, H0, S, r, ok, p⟩ => rd_seq ok p fun d v S1 H1 w1 o1 m1 p1 => ?_
  unfold isiO at p1
  split at p1
  · rename_i hc
    obtain ⟨q, dx, gs, rfl, h2⟩ := of_isCls o1.ex hcn hc m1
    exact ⟨.ref q, .ref C, .ref C, .ref C, true, rfl, .own C, ty_ins ic h2, ic.self, p1.go o1.ex _ (.bl _)⟩
  · split at p1
    · rename_i t ht
      exact ⟨v, .ref C, .type t, .ref C, false, rfl, .own C, by rw [← hK]; exact RpB.ty m1 o1.ex ht, ic.no t (tyN_all ht), p1.go o1.ex _ (.bl _)⟩
    · exact p1.elim
def dProp (n : Str) (F : List D → Res D) (f : Rho → Res D) : Rho → Res D := fun r => (f r).bind fun x => if isCls n x = true then (match F [x] with
  | .ok a => .ok a
  | _ => .bad) else .bad
theorem de_prop {fl : Str} {pa : Addr} (hcn : c.cm n = some C) (cl : Cls X.K C) (hp : PropOf X.K C fl pa fa) (F1 : FnOk X.prog X.w X.K X.mg X.base (L2.CX X.prog X.w) k fa fd ps (spD c.K c.cm [true] rm F)) (hr : Room (k + 1) X.A) (hb : L2.Binds X.K fd ps []) (he : PE X e (tR c G f))
    (hab : attributeBase e fl X.env (eval e X.env) = eval e X.env := by rfl) : PE X (.Attribute e fl pos) (rd c G (dProp n F f) (mR c rm)) :=
  pe_imp (pe_prop (dvs := []) (ds := []) (E := noX) he cl hp F1 hr hb .nil (fun _ _ _ _ _ _ _ h => (cx_never h).elim) hab) fun σ H Q ⟨S0, H0, S, r, ok, p⟩ => rd_seq ok p fun x v S1 H1 w1 o1 m1 p1 => by
    split at p1
    · rename_i hc
      obtain ⟨a, dx, gs, rfl, h2⟩ := of_isCls o1.ex hcn hc m1
      split at p1
      · rename_i z hF
        have p2 := p1.anti w1.h
        exact ⟨a, dx, gs, rfl, h2, calm_sp (ds := [x]) o1.ex ⟨m1, trivial⟩ hF fun S' H' b w hb => p2 S' H' w b hb⟩
      · exact p1.elim
    · exact p1.elim
def isBD (neg : Bool) : D → D → Res D
  | .bl x, .bl y => .ok (.bl (if neg then !decide (x = y) else decide (x = y)))
  | _, _ => .bad
theorem os_isB : OpS c (mV c) rIsB (isBD false) := by
  intro σ S H x y d e Q ex hx hy p
  unfold isBD at p
  split at p
  · cases hx.bl; cases hy.bl
    exact ⟨_, _, rfl, rfl, p.here ex (.bl _)⟩
  · exact p.elim
def keyD : D → Option Key
  | .int i => some (.inl i)
  | .str z => some (.inr z)
  | _ => none
def keyOf : Key → D
  | .inl i => .int i
  | .inr z => .str z
def getK {κ : Type} [DecidableEq κ] : List κ → List D → κ → Option D
  | k :: ks, v :: vs, x => if k = x then some v else getK ks vs x
  | _, _, _ => none
def putV {κ : Type} [DecidableEq κ] (ks : List κ) (vs : List D) (x : κ) (d : D) : List κ × List D := if (ks.any fun k => decide (k = x)) = true then (ks, List.zipWith (fun k v => if k = x then d else v) ks vs) else (ks ++ [x], vs ++ [d])
theorem key_v {K : PySem.W.Frag} {cm : CM} {S H : Hp} {v : V} {d : D} {k : Key} (h : RpB K cm S H v d) (q : keyD d = some k) : v = kV k := by
  cases d with
  | int i => cases q; exact h.int
  | str z => cases q; exact h.str
  | _ => cases q
theorem get_rp {κ : Type} [DecidableEq κ] {K : PySem.W.Frag} {cm : CM} {S : Hp} (k : κ) : ∀ {kvs : List (κ × V)} {ds : List D}, RpA K cm S (kvs.map (·.2)) ds →
    (∀ d, getK (kvs.map (·.1)) ds k = some d → ∃ v, valV kvs k = some v ∧ Rp K cm S v d) ∧ (getK (kvs.map (·.1)) ds k = none → valV kvs k = none)
  | [], ds, h => ⟨fun d q => by simp [getK] at q, fun _ => rfl⟩
  | (k', v') :: kvs, ds, h => by
    cases h with
    | @cons v vs d ds hd hr =>
      obtain ⟨g1, g2⟩ := get_rp k hr
      by_cases e : k' = k
      · rw [valV_pos (p := (k', v')) e]
        refine ⟨fun z q => ?_, fun q => ?_⟩
        · rw [List.map_cons, getK, if_pos e] at q
          cases q
          exact ⟨_, rfl, hd⟩
        · rw [List.map_cons, getK, if_pos e] at q
          cases q
      · rw [valV_neg (p := (k', v')) e]
        refine ⟨fun z q => ?_, fun q => ?_⟩
        · rw [List.map_cons, getK, if_neg e] at q
          exact g1 z q
        · rw [List.map_cons, getK, if_neg e] at q
          exact g2 q
theorem put_rp {κ : Type} [DecidableEq κ] {K : PySem.W.Frag} {cm : CM} {S : Hp} {k : κ} {v : V} {d : D} (hv : Rp K cm S v d) {kvs : List (κ × V)} {ds : List D} (h : RpA K cm S (kvs.map (·.2)) ds) :
    (putV (kvs.map (·.1)) ds k d).1 = (putK kvs k v).map (·.1) ∧ RpA K cm S ((putK kvs k v).map (·.2)) (putV (kvs.map (·.1)) ds k d).2 := by
  have hany : ((kvs.map (·.1)).any fun z => decide (z = k)) = (kvs.any fun kv => decide (kv.1 = k)) := by rw [List.any_map]; rfl
  unfold putV putK
  rw [hany]
  by_cases hm : (kvs.any fun kv => decide (kv.1 = k)) = true
  · rw [if_pos hm, if_pos hm]
    refine ⟨?_, ?_⟩
    · rw [List.map_map]
      refine List.map_congr_left fun p _ => ?_
      show p.1 = (if p.1 = k then (p.1, v) else p).1
      split <;> rfl
    · clear hm hany
      induction kvs generalizing ds with
      | nil => cases h; exact .nil
      | cons p kvs ih =>
        cases h with
        | @cons v' vs' d' ds' hd hr =>
          refine .cons ?_ (ih hr)
          show Rp K cm S (if p.1 = k then (p.1, v) else p).2 (if p.1 = k then d else d')
          split
          · exact hv
          · exact hd
  · rw [if_neg hm, if_neg hm]
    refine ⟨by simp, ?_⟩
    rw [List.map_append]
    exact h.app (.one hv)
/-- {} -/
def dD0 : Rho → Res D := fun _ => .ok (.dk [] [])
/-- k in d -/
def inK (neg : Bool) : D → D → Res D
  | k, .dk ks vs => match keyD k with
    | some x => .ok (.bl (if neg then !(getK ks vs x).isSome else (getK ks vs x).isSome))
    | none => .bad
  | _, _ => .bad
/-- list(d), len(d) -/
def listK : D → Res D
  | .dk ks _ => .ok (.lst (ks.map keyOf))
  | _ => .bad
def lenK : D → Res D
  | .dk ks _ => .ok (.int ks.length)
  | .dt ks _ => .ok (.int ks.length)
  | _ => .bad
/-- d[k] = v, d an own dict -/
def ownK (i : Nat) (r : Rho) : Res (List Key × List D) := match r[i]? with
  | some (some (.dk ks vs)) => .ok (ks, vs)
  | _ => .bad
def asK (d : D) : Res Key := match keyD d with
  | some k => .ok k
  | none => .bad
noncomputable def putF (i : Nat) (fk f : Rho → Res D) : Rho → SR := fun r => liftS r (f r) fun d => liftS r (ownK i r) fun o => liftS r (fk r) fun k => liftS r (asK k) fun x => guardS (o.1.length < sizeLine) (.nx (r.set i (some (.dk (putV o.1 o.2 x d).1 (putV o.1 o.2 x d).2))))
theorem ds_put (i : Nat) {x : Str} {pn p' : Pos} {ix : Expr} {fk : Rho → Res D} (hg : Gok c G) (hr : Room k X.A) (kk : kd G i = .o) (ho : PE X (.Name x pn) (tVar i)) (hi : PE X ix (tV c G fk)) (he : PE X e (tV c G f))
    (hs : swapsWith e (some (.Subscript (.Name x pn) ix p')) pos.line X.env = pure false := by rfl) : PS X (.Assign [.Subscript (.Name x pn) ix p'] e pos) (sD c L G G (putF i fk f)) :=
  ps_imp (ps_dput (by have := hr.units; omega) ho hi he hs) fun E σ H ⟨S0, H0, S, r, ok, p⟩ => st_seq hg ok p fun d v S1 H1 w1 o1 m1 p1 => by
    cases hK : ownK i r with
    | err n ns vs => exfalso; unfold ownK at hK; split at hK <;> cases hK
    | bad => rw [hK] at p1; exact p1.elim
    | ok o =>
      rw [hK] at p1
      unfold ownK at hK
      split at hK
      · rename_i ks vs hd
        cases hK
        obtain ⟨q, ho, s1, s2, s3, s4, s5⟩ := o1.own kk hd
        cases s5 with
        | @dk kvs _ _ hks hvs =>
          subst hks
          refine ⟨.ref q, s1, st_seq hg o1 p1 fun kd' kv S2 H2 w2 o2 m2 p2 => ?_⟩
          unfold asK at p2
          split at p2
          · rename_i xk hx
            have hxk : keyD kd' = some xk := hx
            obtain ⟨hl, p3⟩ := p2.gd
            have hq2 : H2 q = some (.dK kvs) := w2.h _ _ s2
            have ev : kv = kV xk := key_v (H := H2) (.inl m2) hxk
            subst ev
            have pr := put_rp (k := xk) (m1.mono w2.s) (hvs.mono w2.s)
            have hl' : kvs.length < sizeLine := by simpa using hl
            refine ⟨q, _, rfl, DPut.k hq2 hl', p3 σ S2 _ (o2.mut kk hd s1 (.dk pr.1 pr.2))⟩
          · exact p2.elim
      · cases hK
end
end Dx
end S_DxR
section S_DxI
set_option Elab.async false
set_option linter.all false
set_option maxRecDepth 100000
set_option maxHeartbeats 2000000
namespace Dx
open PySem L2 ItX PyProof.Rows
section
variable {X : Cx} {c : Cf} {L G G' : List Ow} {a b e : Expr} {pos : Pos} {f f1 f2 : Rho → Res D} {k : Nat}
def keysD : List D → Option (List Key)
  | [] => some []
  | d :: ds => match keyD d, keysD ds with
    | some k, some ks => some (k :: ks)
    | _, _ => none
def keyT : D → Option (List Key)
  | .tup ds => keysD ds
  | _ => none
def tupOf (ks : List Key) : D := .tup (ks.map keyOf)
theorem keys_v {K : PySem.W.Frag} {cm : CM} {S : Hp} : ∀ {vs : List V} {ds : List D} {ks : List Key}, RpA K cm S vs ds → keysD ds = some ks → vs = ks.map kV
  | _, [], ks, h, q => by cases h; cases q; rfl
  | _, d :: ds, ks, h, q => by
    cases h with | @cons v vs _ _ hd hr =>
    unfold keysD at q
    split at q
    · rename_i k ks' h1 h2
      cases q
      rw [List.map_cons, ← keys_v hr h2, key_v (H := S) (.inl hd) h1]
    · cases q
theorem keyT_v {K : PySem.W.Frag} {cm : CM} {S H : Hp} {v : V} {d : D} {ks : List Key} (h : RpB K cm S H v d) (e : Ex S H) (q : keyT d = some ks) : ∃ p, v = .ref p ∧ H p = some (.tup (ks.map kV)) := by
  cases d with
  | tup ds =>
    obtain ⟨p, xs, rfl, _, r, hp⟩ := h.tup e
    have := keys_v r q
    subst this
    exact ⟨p, rfl, e _ _ hp⟩
  | _ => cases q
/-- a tuple of the heap becomes one that stays -/
theorem Fwd.tup {S H : Hp} (e : Ex S H) {q : Addr} {xs : List V} (h : H q = some (.tup xs)) : ∃ S', Fwd S H S' H ∧ S' q = some (.tup xs) := by
  cases hs : S q with
  | some o =>
    have := e _ _ hs
    rw [h] at this
    cases this
    exact ⟨S, Fwd.refl e, hs⟩
  | none =>
    refine ⟨upd S q (.tup xs), ⟨Ex.new hs, Ex.refl, fun a u ha => ?_, fun a u ha m => ?_⟩, upd_same⟩
    · by_cases hh : a = q
      · subst hh; rw [upd_same] at ha; rw [h]; exact ha
      · rw [upd_ne hh] at ha; exact e a u ha
    · by_cases hh : a = q
      · subst hh; exact .inr ⟨xs, h⟩
      · rw [upd_ne hh, m] at ha; cases ha
def itemsK : D → Res (List D)
  | .dt ks _ => .ok (ks.map tupOf)
  | .dk ks _ => .ok (ks.map keyOf)
  | _ => .bad
variable {tg : Expr}
end
end Dx
end S_DxI
section S_DxJ
set_option Elab.async false
set_option linter.all false
set_option maxRecDepth 100000
set_option maxHeartbeats 2000000
namespace Dx
open PySem L2 ItX PyProof.Rows
theorem tyAll_of {p : String → Prop} (h1 : p "NoneType") (h2 : p "bool") (h3 : p "int") (h4 : p "str") (h5 : p "list") (h6 : p "tuple") (h7 : p "dict") : ∀ t ∈ tyAll, p t := fun t ht => by
  simp only [tyAll, List.mem_cons, List.not_mem_nil, or_false] at ht
  rcases ht with rfl | rfl | rfl | rfl | rfl | rfl | rfl <;> assumption
/-- a def of the text, whatever its defaults are -/
structure FunE (K : PySem.W.Frag) (x qual : Str) (st : Stmt) (f : Addr) (fd : FuncData) : Prop where
  ex : ∃ (oc : Value) (od : Option Addr) (dV kV doc pm : Value) (an : Option Addr) (cdv ct : Value) (osl : Array (Option Value)),
    fd = PySem.W.fnOf x qual (defArgs st) (defBody st) (defScope st) dV kV doc pm an cdv ct ∧ K.lookup f = some ⟨oc, od, .func fd, osl⟩ ∧ PySem.W.codeIn K cdv qual = true
  kp : PySem.W.keepIn K (.ref f) = true
section
variable {P : Program} {w : World} {K : PySem.W.Frag} {mg : Str → Option Value} {base : Heap} {cm : CM}
theorem FunE.okX {x qual : Str} {st : Stmt} {f : Addr} {fd : FuncData} {N ps : List Str} {k : Nat} {sp : Sp} (F : FunE K x qual st f fd) (S : FnScope N ps (defScope st)) (len : ∀ vs H Q E, sp vs H Q E → vs.length = ps.length)
    (hbody : ∀ (cdv : Value) (A : Around) (outer : List Env) (s : Shared) (H : Hp) (vs : List V) (Q : VK) (E : XK), Room k (A.deeper (envOfC qual (defScope st) s.heap.objs.size f cdv)) → sp vs H Q E →
      ∃ t, PSs (cxOf (L2.CX P w) P w K mg base N qual (defScope st) f cdv A outer s H E) (defBody st) t ∧ t { nx := fun _ H' => Q .non H', rt := Q } (start N vs) H) : FnOk P w K mg base (L2.CX P w) (k + 1) f fd ps sp := by
  obtain ⟨oc, od, dV, kV, doc, pm, an, cdv, ct, osl, rfl, lk, hcd⟩ := F.ex
  exact fn_of lk hcd S len fun A outer s H vs Q E hr hsp => hbody cdv A outer s H vs Q E hr hsp
end
end Dx
end S_DxJ
section S_DxH
set_option Elab.async false
set_option linter.all false
set_option maxRecDepth 100000
set_option maxHeartbeats 4000000
namespace Dx
open PySem L2 PyProof.Rows Srt SrtO
abbrev T3 := Int × Int × Int
section
variable {prog : Program} {w : World} {A : Around} {E : Value → Shared → Prop} {s : Shared}
/-- v is a tuple of three ints in the heap -/
def IsTri (h : Heap) (v : Value) (k : T3) : Prop := ∃ a o t u v' n, v = .ref a ∧ h.get? a = some o ∧ o.cls = .type "tuple" ∧ o.data = .seq #[.int k.1 t, .int k.2.1 u, .int k.2.2 v'] n
theorem IsTri.keeps {h h' : Heap} {v : Value} {k : T3} (p : IsTri h v k) (kk : ∀ b o, h.get? b = some o → o.cls = .type "tuple" → h'.get? b = some o) : IsTri h' v k := by
  obtain ⟨a, o, t, u, z, n, e, ho, hc, hd⟩ := p
  exact ⟨a, o, t, u, z, n, e, kk _ _ ho hc, hc, hd⟩
end
end Dx
end S_DxH
section S_DxL
set_option Elab.async false
set_option linter.all false
set_option maxRecDepth 100000
set_option maxHeartbeats 4000000
namespace Dx
open PySem L2
end Dx
end S_DxL
section S_DxK
set_option Elab.async false
set_option linter.all false
set_option maxRecDepth 100000
set_option maxHeartbeats 2000000
namespace Dx
open PySem L2 PyProof.Rows ClX
end Dx
namespace Dx
open PySem L2
end Dx
end S_DxK
section S_DxAA
set_option Elab.async false
set_option linter.all false
set_option maxRecDepth 100000
set_option maxHeartbeats 2000000
namespace Dx
open PySem L2
section
variable {X : Cx} {c : Cf} {L G G' : List Ow} {f f1 f2 : Rho → Res D} {a b e : Expr} {pos : Pos} {tg : Expr}
def insI (p : Int) : List Int → List Int
  | [] => [p]
  | x :: xs => if x < p then x :: insI p xs else p :: x :: xs
def sortI : List Int → List Int
  | [] => []
  | x :: xs => insI x (sortI xs)
def sortID : D → Res D
  | .lst ds => match allInt ds with
    | some is => .ok (.lst ((sortI is).map D.int))
    | none => .bad
  | _ => .bad
end
section
variable {Q : D → Prop} {E : Str → List Str → List D → Prop} {i j s : Int}
theorem allInt_map : ∀ ns : List Int, allInt (ns.map D.int) = some ns
  | [] => rfl
  | n :: ns => by rw [List.map_cons, allInt, allInt_map ns]
theorem rs_sortI {ns : List Int} (q : Q (.lst ((sortI ns).map D.int))) : Rs (g1 sortID [.lst (ns.map D.int)]) Q E := by
  show Rs (match allInt (ns.map D.int) with | some is => Res.ok (.lst ((sortI is).map D.int)) | none => .bad) Q E
  rw [allInt_map]; exact q
theorem rs_g2 {g : Int → Int → Int} (q : Q (.int (g i j))) : Rs (g2 (intsD g) [.int i, .int j]) Q E := q
theorem rs_sum {ns : List Int} (q : Q (.int ns.sum)) : Rs (g1 sumD [.lst (ns.map D.int)]) Q E := by
  show Rs (match allInt (ns.map D.int) with | some is => Res.ok (.int is.sum) | none => .bad) Q E
  rw [allInt_map]; exact q
end
end Dx
end S_DxAA
section S_DxAB
set_option Elab.async false
set_option linter.all false
set_option maxRecDepth 100000
set_option maxHeartbeats 4000000
namespace Dx
open PySem L2 PyProof.Rows Srt SrtO
section
variable {prog : Program} {w : World} {A : Around} {E : Value → Shared → Prop} {s : Shared}
def IsRow (h : Heap) (v : Value) (k : List Key) : Prop := ∃ a o us n, v = .ref a ∧ h.get? a = some o ∧ o.cls = .type "tuple" ∧ o.data = .seq us.toArray n ∧ Vals (k.map kV) us
theorem IsRow.keeps {h h' : Heap} {v : Value} {k : List Key} (p : IsRow h v k) (kk : ∀ b o, h.get? b = some o → o.cls = .type "tuple" → h'.get? b = some o) : IsRow h' v k := by
  obtain ⟨a, o, us, n, e, ho, hc, hd, hv⟩ := p
  exact ⟨a, o, us, n, e, kk _ _ ho hc, hc, hd, hv⟩
end
end Dx
end S_DxAB
section S_DxAC
set_option Elab.async false
set_option linter.all false
set_option maxRecDepth 100000
set_option maxHeartbeats 4000000
namespace Dx
open PySem L2
section
variable {X : Cx} {c : Cf} {L G G' G'' : List Ow} {f f1 f2 : Rho → Res D} {a b e e2 e3 : Expr} {pos : Pos} {tg : Expr} {k : Nat}
def getE (d k e : D) : Res D := match d with
  | .dk ks vs => match keyD k with
    | some x => .ok ((getK ks vs x).getD e)
    | none => .bad
  | .dt ks vs => match keyT k with
    | some x => .ok ((getK ks vs x).getD e)
    | none => .bad
  | _ => .bad
def getZ (d k : D) : Res D := match d with
  | .dk ks vs => match keyD k with
    | some x => match getK ks vs x with
      | some d => .ok d
      | none => .bad
    | none => .bad
  | .dt ks vs => match keyT k with
    | some x => match getK ks vs x with
      | some d => .ok d
      | none => .bad
    | none => .bad
  | _ => .bad
theorem de_getZ (hr : Room k X.A) (ha : PE X a (tR c G f1)) (hb : PE X b (tR c G f2)) (hs : NoSl b) : PE X (.Subscript a b pos) (tV c G (dOp getZ f1 f2)) :=
  pe_imp (pe_dget (by have := hr.units; omega) ha hb hs) fun σ H Q ⟨S0, H0, S, r, ok, p⟩ => rd_seq ok p fun d v S1 H1 w1 o1 m1 p1 => rd_seq o1 p1 fun e u S2 H2 w2 o2 m2 p2 => by
    have m1 := RpB.mono m1 w2.s w2.h
    unfold getZ at p2
    split at p2
    · rename_i ks vs
      split at p2
      · rename_i x hx
        split at p2
        · rename_i z hz
          obtain ⟨q, kvs, rfl, h1, rfl, h3⟩ := RpB.dk m1 o2.ex
          obtain ⟨w, g1, g2⟩ := (get_rp x h3).1 z hz
          refine ⟨q, w, rfl, ?_, p2.go o2.ex _ g2⟩
          rw [key_v m2 hx, ← g1]
          exact .inl ⟨_, _, h1, rfl, rfl⟩
        · exact p2.elim
      · exact p2.elim
    · rename_i ks vs
      split at p2
      · rename_i x hx
        split at p2
        · rename_i z hz
          obtain ⟨q, kvs, rfl, h1, rfl, h3⟩ := RpB.dt m1 o2.ex
          obtain ⟨w, g1, g2⟩ := (get_rp x h3).1 z hz
          obtain ⟨b, rfl, hb⟩ := keyT_v m2 o2.ex hx
          exact ⟨q, w, rfl, .inr ⟨_, x, b, h1, rfl, hb, g1.symm⟩, p2.go o2.ex _ g2⟩
        · exact p2.elim
      · exact p2.elim
    · exact p2.elim
abbrev FP := (Rho → Res D) × (Rho → Res D)
def dPairs : List FP → Rho → Res (List (D × D))
  | [], _ => .ok []
  | p :: ps, r => (p.1 r).bind fun k => (p.2 r).bind fun d => (dPairs ps r).bind fun kvs => .ok ((k, d) :: kvs)
def RpPs (c : Cf) (S : Hp) : List (V × V) → List (D × D) → Prop
  | [], [] => True
  | v :: vs, d :: ds => Rp c.K c.cm S v.1 d.1 ∧ Rp c.K c.cm S v.2 d.2 ∧ RpPs c S vs ds
  | _, _ => False
theorem tp_rd : ∀ (ps : List FP) {σ : St} {S0 H0 S H : Hp} {r : Rho} {Q : List (V × V) → Hp → Prop}, EnvOk c S0 H0 G S H σ r → PostG c σ S H (dPairs ps r) (fun kvs S' H' => Fwd S H S' H' → ∀ vs, RpPs c S' vs kvs → Q vs H') →
    tPairs (ps.map fun p => (tV c G p.1, tV c G p.2)) σ H Q
  | [], σ, S0, H0, S, H, r, Q, ok, p => p S H (Fwd.refl ok.ex) (Fwd.refl ok.ex) [] trivial
  | p :: ps, σ, S0, H0, S, H, r, Q, ok, q => by
    show rd c G p.1 (mV c) σ H fun x H1 => rd c G p.2 (mV c) σ H1 fun y H2 => tPairs (ps.map fun p => (tV c G p.1, tV c G p.2)) σ H2 fun z H3 => Q ((x, y) :: z) H3
    have q : PostG c σ S H ((p.1 r).bind fun k => (p.2 r).bind fun d => (dPairs ps r).bind fun kvs => .ok ((k, d) :: kvs)) (fun kvs S' H' => Fwd S H S' H' → ∀ vs, RpPs c S' vs kvs → Q vs H') := q
    refine rd_seq ok q fun kd kv S1 H1 w1 o1 m1 q1 => rd_seq o1 q1 fun d v S2 H2 w2 o2 m2 q2 => tp_rd ps o2 (q2.unbind.imp fun kvs S3 H3 w3 h3 _ vs hv => ?_)
    exact h3 S3 H3 (Fwd.refl w3.sub) ((w1.trans w2).trans w3) _ ⟨Rp.mono (w2.trans w3).s m1, Rp.mono w3.s m2, hv⟩
def mergeD : List Key → List D → List (D × D) → Res D
  | ks, vs, [] => .ok (.dk ks vs)
  | ks, vs, (k, d) :: kvs => match keyD k with
    | some x => mergeD (putV ks vs x d).1 (putV ks vs x d).2 kvs
    | none => .bad
theorem merge_rp {S : Hp} : ∀ {vs : List (V × V)} {ds : List (D × D)} {kvs : List (Key × V)} {vals : List D} {o : D}, RpPs c S vs ds → RpA c.K c.cm S (kvs.map (·.2)) vals → mergeD (kvs.map (·.1)) vals ds = .ok o →
    ∃ more : List (Key × V), vs = more.map (fun kv => (kV kv.1, kv.2)) ∧ RpO c.K c.cm S (.dK (mergeK kvs more)) o
  | [], [], kvs, vals, o, _, h, e => by
    cases e
    exact ⟨[], rfl, .dk rfl h⟩
  | v :: vs, (kd, d) :: ds, kvs, vals, o, ⟨h1, h2, h3⟩, h, e => by
    unfold mergeD at e
    split at e
    · rename_i x hx
      have hv : v.1 = kV x := key_v (H := S) (.inl h1) hx
      have pr := put_rp (k := x) h2 h
      rw [pr.1] at e
      obtain ⟨more, m1, m2⟩ := merge_rp h3 pr.2 e
      exact ⟨(x, v.2) :: more, by rw [m1, List.map_cons, ← hv], m2⟩
    · cases e
  | [], _ :: _, _, _, _, h, _, _ => h.elim
  | _ :: _, [], _, _, _, h, _, _ => h.elim
def dDisp (ps : List FP) : Rho → Res D := fun r => (dPairs ps r).bind fun kvs => mergeD [] [] kvs
theorem mergeD_ne : ∀ (kvs : List (D × D)) (ks : List Key) (vs : List D) {n : Str} {ns : List Str} {ws : List D}, mergeD ks vs kvs ≠ .err n ns ws
  | [], _, _, _, _, _ => by unfold mergeD; intro h; cases h
  | (k, d) :: kvs, ks, vs, n, ns, ws => by
    unfold mergeD
    split
    · exact mergeD_ne kvs _ _
    · intro h; cases h
theorem RpPs.len {S : Hp} : ∀ {vs : List (V × V)} {ds : List (D × D)}, RpPs c S vs ds → vs.length = ds.length
  | [], [], _ => rfl
  | v :: vs, d :: ds, h => by simp [RpPs.len h.2.2]
  | [], _ :: _, h => h.elim
  | _ :: _, [], h => h.elim
theorem dPairs_len : ∀ {ps : List FP} {r : Rho} {kvs : List (D × D)}, dPairs ps r = .ok kvs → kvs.length = ps.length
  | [], r, kvs, h => by cases h; rfl
  | p :: ps, r, kvs, h => by
    unfold dPairs at h
    cases h1 : p.1 r with
    | ok a =>
      rw [h1] at h
      have h : ((p.2 r).bind fun d => (dPairs ps r).bind fun kvs => Res.ok ((a, d) :: kvs)) = .ok kvs := h
      cases h2 : p.2 r with
      | ok b =>
        rw [h2] at h
        have h : ((dPairs ps r).bind fun kvs => Res.ok ((a, b) :: kvs)) = .ok kvs := h
        cases h3 : dPairs ps r with
        | ok z => rw [h3] at h; cases h; simp [dPairs_len h3]
        | err _ _ _ => rw [h3] at h; cases h
        | bad => rw [h3] at h; cases h
      | err _ _ _ => rw [h2] at h; cases h
      | bad => rw [h2] at h; cases h
    | err _ _ _ => rw [h1] at h; cases h
    | bad => rw [h1] at h; cases h
theorem de_disp {keys : List (Option Expr)} {values : List Expr} {ps : List FP} (h : PPs X pos keys values (ps.map fun p => (tV c G p.1, tV c G p.2))) (hall : keys.all (·.isSome) = true) (hl : keys.length = values.length) (h0 : keys ≠ []) (h15 : keys.length ≤ 15) (hp : ps.length = keys.length) :
    PE X (.Dict keys values pos) (tO c G (dDisp ps)) := pe_imp (pe_disp h hall hl h0 h15) fun σ H Q ⟨S0, H0, S, r, ok, p⟩ => fun q hq => by
  have w0 : Fwd S H S (upd H q (.dK [])) := Fwd.heap ok.ex hq
  have p' : PostG c σ S H ((dPairs ps r).bind fun kvs => mergeD [] [] kvs) (fun a S' H' => ∀ b, mO c H S' H' b a → Q b H') := p
  have pm : PostG c σ S H (dPairs ps r) fun kvs S' H' => kvs.length = ps.length ∧ PostG c σ S H (mergeD [] [] kvs) (fun a S' H' => ∀ b, mO c H S' H' b a → Q b H') := by
    cases hd : dPairs ps r with
    | ok kvs =>
      rw [hd] at p'
      exact fun S' H' w => ⟨dPairs_len hd, p'⟩
    | err _ _ _ => rw [hd] at p'; exact p'
    | bad => rw [hd] at p'; exact p'.elim
  refine tp_rd ps (ok.go w0) ((pm.mono w0).imp fun kvs S1 H1 w1 ⟨hlen, h1⟩ w2 vs hv => ?_)
  have wt := w0.trans w1
  have hq2 : H1 q = some (.dK []) := w1.h _ _ upd_same
  have nq : S1 q = none := by
    cases z : S1 q with
    | none => rfl
    | some o =>
      obtain ⟨xs, y⟩ := (w1.new q o z (ok.ex.nn hq)).not upd_same
      cases y
  cases hm : mergeD [] [] kvs with
  | ok o =>
    rw [hm] at h1
    obtain ⟨more, e1, e2⟩ := merge_rp (kvs := []) hv .nil hm
    refine ⟨hq2, more, e1, ?_, ?_⟩
    · have := hv.len
      rw [e1, List.length_map] at this
      omega
    · exact h1 S1 _ ⟨wt.s, wt.h.put hq, wt.sub.put nq, wt.new⟩ _ ⟨q, _, rfl, hq, nq, upd_same, e2⟩
  | err _ _ _ => exact absurd hm (mergeD_ne _ _ _)
  | bad => rw [hm] at h1; exact h1.elim
def allBl : List D → Option (List Bool)
  | [] => some []
  | .bl b :: ds => match allBl ds with
    | some bs => some (b :: bs)
    | none => none
  | _ => none
def allD : D → Res D
  | .lst ds => match allBl ds with
    | some bs => .ok (.bl (bs.all id))
    | none => .bad
  | _ => .bad
noncomputable def intSD : D → Res D
  | .str z => match PySem.intText? z with
    | some n => guard (z.length ≤ 640) (.ok (.int n))
    | none => .bad
  | _ => .bad
def inKt (neg : Bool) (d e : D) : Res D := match e with
  | .kt ds => match inFlat d ds with
    | some b => .ok (.bl (if neg then !b else b))
    | none => .bad
  | _ => .bad
theorem kt_mk {K : PySem.W.Frag} {cm : CM} {A : Addr} {od : Option Addr} {n : Nat} {sl : Array (Option Value)} {us : List Value} {xs : List V} {ds : List D} (l : K.lookup A = some ⟨.type "tuple", od, .seq us.toArray n, sl⟩) (hz : us.length ≤ 1000) (hv : Vals xs us) {S : Hp} (hr : RpA K cm S xs ds) : Rp K cm S (.ref A) (.kt ds) :=
  .kt (.inr ⟨_, us.toArray, n, l, rfl, rfl, by rw [sizeLine_eq]; simp; omega, by simpa using hv⟩) hr
def parF3 (i j l : Nat) (f1 f2 f3 : Rho → Res D) : Rho → SR := fun r => liftS r (dCons f1 (dCons f2 (dCons f3 dNil)) r) fun ds => match ds with
  | [d, e, g] => .nx (((r.set i (some d)).set j (some e)).set l (some g))
  | _ => .bad
end
section
variable {Q : D → Prop} {E : Str → List Str → List D → Prop} {r : Rho} {f f1 f2 f3 : Rho → Res D} {d k e : D}
theorem allBl_map : ∀ bs : List Bool, allBl (bs.map D.bl) = some bs
  | [] => rfl
  | b :: bs => by rw [List.map_cons, allBl, allBl_map bs]
theorem rs_all {bs : List Bool} (q : Q (.bl (bs.all id))) : Rs (g1 allD [.lst (bs.map D.bl)]) Q E := by
  show Rs (match allBl (bs.map D.bl) with | some bs => Res.ok (.bl (bs.all id)) | none => .bad) Q E
  rw [allBl_map]; exact q
theorem rs_intS {z : Str} {n : Int} (h : PySem.intText? z = some n) (hl : z.length ≤ 640) (q : Q (.int n)) : Rs (g1 intSD [.str z]) Q E := by
  show Rs (match PySem.intText? z with | some n => guard (z.length ≤ 640) (.ok (.int n)) | none => .bad) Q E
  rw [h]
  exact rs_guard hl q
end
section
variable {N B C : Rho → Prop} {R : D → Prop} {E : Rho → Str → List Str → List D → Prop} {r : Rho} {f f1 f2 f3 : Rho → Res D} {i j l : Nat}
theorem ss_par3 (h : Rs (f1 r) (fun d => Rs (f2 r) (fun e => Rs (f3 r) (fun g => N (((r.set i (some d)).set j (some e)).set l (some g))) (E r)) (E r)) (E r)) : Ss (parF3 i j l f1 f2 f3 r) N R B C E :=
  ss_lift (rs_cons (h.impE (fun d q => rs_cons (q.impE (fun e q => rs_cons (q.impE (fun g q => rs_nil q) fun _ _ _ z => z)) fun _ _ _ z => z)) fun _ _ _ z => z))
end
end Dx
end S_DxAC
section S_DxAD
set_option Elab.async false
set_option linter.all false
set_option maxRecDepth 100000
set_option maxHeartbeats 2000000
namespace Dx
open PySem L2
section
variable {X : Cx} {c : Cf} {G : List Ow} {pos : Pos}
theorem de_strL {x y : Str} {j : Nat} (h : x = y) : PE X (.Constant (.str x) j pos) (tV c G (dC (.str y))) := by subst h; exact de_str
theorem rp_lit {K : PySem.W.Frag} {cm : CM} {S : Hp} {x y : Str} (h : x = y) : Rp K cm S (.str x) (.str y) := by subst h; exact .str _
end
theorem log_small {i : Int} (h : 0 ≤ i) (h1 : i < 1000000000000) : i.natAbs.log2 < 1920 := by
  by_cases h0 : i.natAbs = 0
  · rw [h0]; decide
  · have : i.natAbs < 2 ^ 40 := by omega
    have := (Nat.log2_lt h0).mpr this
    omega
theorem num_ST {i : Int} (h : 0 ≤ i) : (toString i : Str) = Sg (TL.numL i.toNat) := by
  have e : i = ((i.toNat : Nat) : Int) := by omega
  refine TL.ext_tl ?_
  have := TL.tl_num i.toNat
  rw [← e] at this
  exact this
theorem lt_one {a b : Nat} : ([a] < [b]) ↔ a < b := by
  constructor
  · intro h
    cases h with
    | rel h => exact h
    | cons h => cases h
  · intro h; exact List.Lex.rel h
section
variable {Q : D → Prop} {E : Str → List Str → List D → Prop} {i j : Int} {a b l : List Nat} {r : Rho} {f : Rho → Res D} {g : Str → Rho → Res D} {acc : List Nat} {d : D}
theorem rs_strI (h : 0 ≤ i ∧ i < 1000000000000) (q : Q (.str (Sg (TL.numL i.toNat)))) : Rs (g1 strD [.int i]) Q E :=
  rs_guard (log_small h.1 h.2) (by show Q (.str (toString i)); rw [num_ST h.1]; exact q)
theorem rs_fmtI (h : 0 ≤ i ∧ i < 1000000000000) (q : Q (.str (Sg (TL.numL i.toNat)))) : Rs (fmtD (.int i)) Q E :=
  rs_guard (log_small h.1 h.2) (by show Q (.str (toString i)); rw [num_ST h.1]; exact q)
theorem rs_fmtS (h : a.length ≤ sizeLine) (q : Q (.str (Sg a))) : Rs (fmtD (.str (Sg a))) Q E := rs_guard (by rw [ST_len]; exact h) q
theorem rs_jnil (q : Q (.str (Sg acc))) : Rs (dJnil (Sg acc) r) Q E := q
theorem rs_jcons (h : Rs (f r) (fun d => Rs (asS d) (fun y => ∃ l, y = Sg l ∧ acc.length + l.length ≤ 100000 ∧ Rs (g (Sg (acc ++ l)) r) Q E) E) E) : Rs (dJcons f g (Sg acc) r) Q E :=
  Rs.bind (h.impE (fun d q => Rs.bind (q.impE (fun y q => by
    obtain ⟨l, rfl, h1, h2⟩ := q
    rw [ST_app]
    exact rs_guard (by rw [ST_len, List.length_append]; exact Nat.le_trans h1 sz5) h2) fun _ _ _ z => z)) fun _ _ _ z => z)
theorem rs_asSJ {l : List Nat} (h : acc.length + l.length ≤ 100000) (k : Rs (g (Sg (acc ++ l)) r) Q E) : Rs (asS (.str (Sg l))) (fun y => ∃ l, y = Sg l ∧ acc.length + l.length ≤ 100000 ∧ Rs (g (Sg (acc ++ l)) r) Q E) E := ⟨l, rfl, h, k⟩
theorem rs_dJoin (h : Rs (g (Sg []) r) Q E) : Rs (dJoin g r) Q E := h
theorem rs_ord {n : Nat} (q : Q (.int n)) : Rs (g1 ordX [.str (Sg [n])]) Q E := rs_guard (by rw [ST_len]; rfl) q
theorem rs_leS {m n : Nat} (q : Q (.bl (decide (m ≤ n)))) : Rs (leD (.str (Sg [m])) (.str (Sg [n]))) Q E := by
  show Q (.bl (!decide ([n] < [m])))
  rw [show (!decide ([n] < [m])) = decide (m ≤ n) from by
    rw [Bool.eq_iff_iff]
    simp only [Bool.not_eq_true', decide_eq_false_iff_not, decide_eq_true_eq, lt_one]
    omega]
  exact q
theorem inFlat_ints (i : Int) (ns : List Int) : inFlat (.int i) (ns.map D.int) = some (decide (i ∈ ns)) := by
  have e : flatDs (ns.map D.int) = some (ns.map V.int) := by
    induction ns with
    | nil => rfl
    | cons n ns ih => rw [List.map_cons, flatDs, ih]; rfl
  unfold inFlat
  rw [e]
  show some (inV (V.int i) (ns.map V.int)) = _
  congr 1
  induction ns with
  | nil => rfl
  | cons n ns ih =>
    have e : flatDs (ns.map D.int) = some (ns.map V.int) := by
      clear ih e
      induction ns with
      | nil => rfl
      | cons n ns ih => rw [List.map_cons, flatDs, ih]; rfl
    have ih := ih e
    unfold inV at ih ⊢
    rw [List.map_cons, List.any_cons, ih]
    show (decide (n = i) || decide (i ∈ ns)) = _
    by_cases h : n = i
    · subst h; simp
    · have h' : ¬ i = n := fun z => h z.symm
      simp [h, h']
theorem rs_inKI {neg : Bool} {ns : List Int} (q : Q (.bl (if neg then !decide (i ∈ ns) else decide (i ∈ ns)))) : Rs (inKt neg (.int i) (.kt (ns.map D.int))) Q E := by
  show Rs (match inFlat (.int i) (ns.map D.int) with | some b => Res.ok (D.bl (if neg then !b else b)) | none => .bad) Q E
  rw [inFlat_ints]; exact q
theorem rs_inI {ns : List Int} (q : Q (.bl (decide (i ∈ ns)))) : Rs (inD (.int i) (.lst (ns.map D.int))) Q E := by
  show Rs ((inLst (.int i) (ns.map D.int)).bind _) Q E
  unfold inLst
  rw [inFlat_ints]; exact q
theorem rs_ninI {ns : List Int} (q : Q (.bl (!decide (i ∈ ns)))) : Rs (ninD (.int i) (.lst (ns.map D.int))) Q E := by
  show Rs ((inLst (.int i) (ns.map D.int)).bind _) Q E
  unfold inLst
  rw [inFlat_ints]; exact q
end
abbrev TD := List (List Nat × D)
def kS (a : List Nat) : Key := .inr (Sg a)
theorem kS_inj {a b : List Nat} : kS a = kS b ↔ a = b := ⟨fun h => by injection h with h; exact ST_inj.mp h, fun h => by rw [h]⟩
def dkT (T : TD) : D := .dk (T.map fun p => kS p.1) (T.map (·.2))
def lk (T : TD) (a : List Nat) : Option D := (T.find? fun p => decide (p.1 = a)).map (·.2)
def setT : TD → List Nat → D → TD
  | [], a, d => [(a, d)]
  | p :: T, a, d => if p.1 = a then (a, d) :: T else p :: setT T a d
def NdK (T : TD) : Prop := (T.map (·.1)).Nodup
theorem lk_cons (p : List Nat × D) (T : TD) (a : List Nat) : lk (p :: T) a = if p.1 = a then some p.2 else lk T a := by
  unfold lk
  rw [List.find?_cons]
  by_cases h : p.1 = a
  · rw [if_pos h, decide_eq_true h]; rfl
  · rw [if_neg h, decide_eq_false h]
theorem getK_T (T : TD) (a : List Nat) : getK (T.map fun p => kS p.1) (T.map (·.2)) (kS a) = lk T a := by
  induction T with
  | nil => rfl
  | cons p T ih =>
    rw [List.map_cons, List.map_cons, getK, ih, lk_cons]
    by_cases h : p.1 = a
    · rw [if_pos (kS_inj.mpr h), if_pos h]
    · rw [if_neg (fun z => h (kS_inj.mp z)), if_neg h]
theorem lk_isSome {T : TD} {a : List Nat} : (lk T a).isSome = decide (a ∈ T.map (·.1)) := by
  induction T with
  | nil => rfl
  | cons p T ih =>
    rw [lk_cons, List.map_cons]
    by_cases h : p.1 = a
    · rw [if_pos h]; simp [h]
    · have h' : ¬ a = p.1 := fun z => h z.symm
      rw [if_neg h, ih]; simp [h']
theorem lk_of {T : TD} (hn : NdK T) {a : List Nat} {d : D} (h : (a, d) ∈ T) : lk T a = some d := by
  induction T with
  | nil => cases h
  | cons p T ih =>
    obtain ⟨h1, h2⟩ := List.nodup_cons.mp hn
    rw [lk_cons]
    rcases List.mem_cons.mp h with e | h
    · rw [← e, if_pos rfl]
    · by_cases e : p.1 = a
      · exact absurd (List.mem_map.mpr ⟨_, h, e.symm⟩) h1
      · rw [if_neg e]; exact ih h2 h
theorem putV_T {T : TD} (hn : NdK T) (a : List Nat) (d : D) : putV (T.map fun p => kS p.1) (T.map (·.2)) (kS a) d = ((setT T a d).map fun p => kS p.1, (setT T a d).map (·.2)) := by
  unfold putV
  have hany : ((T.map fun p => kS p.1).any fun k => decide (k = kS a)) = decide (a ∈ T.map (·.1)) := by
    clear hn
    induction T with
    | nil => rfl
    | cons p T ih =>
      rw [List.map_cons, List.any_cons, ih, List.map_cons]
      by_cases h : p.1 = a
      · rw [decide_eq_true (kS_inj.mpr h)]; simp [h]
      · have h' : ¬ a = p.1 := fun z => h z.symm
        rw [decide_eq_false fun z => h (kS_inj.mp z)]; simp [h']
  rw [hany]
  by_cases hm : a ∈ T.map (·.1)
  · rw [if_pos (decide_eq_true hm)]
    have one : ∀ (T : TD), a ∉ T.map (·.1) → List.zipWith (fun k v => if k = kS a then d else v) (T.map fun p => kS p.1) (T.map (·.2)) = T.map (·.2) := by
      intro T
      induction T with
      | nil => intro _; rfl
      | cons p T ih =>
        intro h
        have h1 : p.1 ≠ a := fun e => h (by simp [e])
        rw [List.map_cons, List.map_cons, List.zipWith_cons_cons, if_neg (fun z => h1 (kS_inj.mp z)), ih fun z => h (by rw [List.map_cons]; exact List.mem_cons_of_mem _ z)]
    induction T with
    | nil => cases hm
    | cons p T ih =>
      obtain ⟨h1, h2⟩ := List.nodup_cons.mp hn
      rw [setT]
      by_cases e : p.1 = a
      · rw [if_pos e, List.map_cons, List.map_cons, List.zipWith_cons_cons, if_pos (kS_inj.mpr e), one T (e ▸ h1), e]
        rfl
      · have hm' : a ∈ T.map (·.1) := by
          rcases List.mem_cons.mp hm with z | z
          · exact absurd z.symm e
          · exact z
        have hany' : ((T.map fun p => kS p.1).any fun k => decide (k = kS a)) = decide (a ∈ T.map (·.1)) := by
          clear hany ih hm hm' hn h1 h2
          induction T with
          | nil => rfl
          | cons p T ih =>
            rw [List.map_cons, List.any_cons, ih, List.map_cons]
            by_cases h : p.1 = a
            · rw [decide_eq_true (kS_inj.mpr h)]; simp [h]
            · have h' : ¬ a = p.1 := fun z => h z.symm
              rw [decide_eq_false fun z => h (kS_inj.mp z)]; simp [h']
        have ih := ih h2 hany' hm'
        injection ih with i1 i2
        rw [if_neg e, List.map_cons, List.map_cons, List.zipWith_cons_cons, if_neg (fun z => e (kS_inj.mp z)), i2, List.map_cons, List.map_cons, ← i1]
  · rw [if_neg (by simpa using hm)]
    have : ∀ T : TD, a ∉ T.map (·.1) → setT T a d = T ++ [(a, d)] := by
      intro T
      induction T with
      | nil => intro _; rfl
      | cons p T ih =>
        intro h
        have h1 : p.1 ≠ a := fun e => h (by simp [e])
        rw [setT, if_neg h1, ih fun z => h (by rw [List.map_cons]; exact List.mem_cons_of_mem _ z)]
        rfl
    rw [this T hm, List.map_append, List.map_append]
    rfl
section
variable {Q : D → Prop} {E : Str → List Str → List D → Prop} {T : TD} {a : List Nat} {d e : D} {r : Rho}
theorem rs_getT (h : lk T a = some d) (q : Q d) : Rs (getZ (dkT T) (.str (Sg a))) Q E := by
  show Rs (match getK (T.map fun p => kS p.1) (T.map (·.2)) (kS a) with | some d => Res.ok d | none => .bad) Q E
  rw [getK_T, h]; exact q
theorem rs_inTk {neg : Bool} (q : Q (.bl (if neg then !decide (a ∈ T.map (·.1)) else decide (a ∈ T.map (·.1))))) : Rs (inK neg (.str (Sg a)) (dkT T)) Q E := by
  show Q (.bl (if neg then !(getK (T.map fun p => kS p.1) (T.map (·.2)) (kS a)).isSome else (getK (T.map fun p => kS p.1) (T.map (·.2)) (kS a)).isSome))
  rw [getK_T, lk_isSome]; exact q
theorem rs_getET (q : Q ((lk T a).getD e)) : Rs (getE (dkT T) (.str (Sg a)) e) Q E := by
  show Q ((getK (T.map fun p => kS p.1) (T.map (·.2)) (kS a)).getD e)
  rw [getK_T]; exact q
theorem rs_dD0 (q : Q (dkT [])) : Rs (dD0 r) Q E := q
theorem rs_listTk (q : Q (.lst (T.map fun p => .str (Sg p.1)))) : Rs (g1 listK [dkT T]) Q E := by
  show Q (.lst ((T.map fun p => kS p.1).map keyOf))
  rw [List.map_map]; exact q
theorem rs_lenTk (q : Q (.int T.length)) : Rs (g1 lenK [dkT T]) Q E := by
  show Q (.int (T.map fun p => kS p.1).length)
  rw [List.length_map]; exact q
theorem rs_itTk {Q : List D → Prop} (q : Q (T.map fun p => .str (Sg p.1))) : Rs (itemsK (dkT T)) Q E := by
  show Q ((T.map fun p => kS p.1).map keyOf)
  rw [List.map_map]; exact q
end
section
variable {Q : D → Prop} {E : Str → List Str → List D → Prop} {r : Rho} {fk fv : Rho → Res D} {ps : List FP}
theorem rs_disp (h : Rs (dPairs ps r) (fun kvs => Rs (mergeD [] [] kvs) Q E) E) : Rs (dDisp ps r) Q E := Rs.bind h
theorem rs_pnil {Q : List (D × D) → Prop} (q : Q []) : Rs (dPairs [] r) Q E := q
theorem rs_pcons {Q : List (D × D) → Prop} (h : Rs (fk r) (fun k => Rs (fv r) (fun d => Rs (dPairs ps r) (fun kvs => Q ((k, d) :: kvs)) E) E) E) : Rs (dPairs ((fk, fv) :: ps) r) Q E :=
  Rs.bind (h.impE (fun k q => Rs.bind (q.impE (fun d q => Rs.bind (q.impE (fun _ z => z) fun _ _ _ z => z)) fun _ _ _ z => z)) fun _ _ _ z => z)
end
theorem ss_putTk {N B C : Rho → Prop} {R : D → Prop} {E : Rho → Str → List Str → List D → Prop} {r : Rho} {f fk : Rho → Res D} {i : Nat} {T : TD} (hn : NdK T) (h1 : r[i]? = some (some (dkT T)))
    (h : Rs (f r) (fun d => Rs (fk r) (fun k => ∃ a, k = .str (Sg a) ∧ T.length < 100000 ∧ N (r.set i (some (dkT (setT T a d))))) (E r)) (E r)) : Ss (putF i fk f r) N R B C E :=
  ss_lift (h.impE (fun d q => by
    refine ss_lift (Rs.of (a := (T.map fun p => kS p.1, T.map (·.2))) (by unfold ownK; rw [h1]; rfl) (ss_lift (q.impE (fun k q => ?_) fun _ _ _ z => z)))
    obtain ⟨a, rfl, q3, q4⟩ := q
    refine ss_lift (Rs.of (a := kS a) rfl ?_)
    dsimp only
    rw [guardS_pos (by rw [List.length_map]; exact Nat.lt_of_lt_of_le q3 sz5), putV_T hn]
    exact q4) fun _ _ _ z => z)
section
variable {N B C : Rho → Prop} {R : D → Prop} {E : Rho → Str → List Str → List D → Prop} {r : Rho} {t u : Rho → Res Bool} {F K : Rho → SR}
/-- if t or u: F else: K, one test after the other -/
theorem ss_ifo (h : Rs (t r) (fun a => (a = true → Ss (F r) N R B C E) ∧ (a = false → Ss (ifF u F K r) N R B C E)) (E r)) : Ss (ifF (dOr t u) F K r) N R B C E := by
  unfold ifF
  refine ss_lift ?_
  refine rs_orc (h.impE (fun a q => ⟨fun ha => ?_, fun ha => ?_⟩) fun _ _ _ z => z)
  · exact q.1 ha
  · have q := q.2 ha
    unfold ifF at q
    cases hu : u r with
    | ok b => rw [hu] at q; exact q
    | err n ns vs => rw [hu] at q; exact q
    | bad => rw [hu] at q; exact q
theorem ss_ifa (h : Rs (t r) (fun a => (a = true → Ss (ifF u F K r) N R B C E) ∧ (a = false → Ss (K r) N R B C E)) (E r)) : Ss (ifF (dAnd t u) F K r) N R B C E := by
  unfold ifF
  refine ss_lift ?_
  refine rs_andc (h.impE (fun a q => ⟨fun ha => ?_, fun ha => ?_⟩) fun _ _ _ z => z)
  · have q := q.1 ha
    unfold ifF at q
    cases hu : u r with
    | ok b => rw [hu] at q; exact q
    | err n ns vs => rw [hu] at q; exact q
    | bad => rw [hu] at q; exact q
  · exact q.2 ha
end
end Dx
end S_DxAD
section S_DxAE
set_option Elab.async false
set_option linter.all false
set_option maxRecDepth 100000
set_option maxHeartbeats 2000000
namespace Dx
open PySem L2
end Dx
end S_DxAE
section S_DxAF
set_option Elab.async false
set_option linter.all false
set_option maxRecDepth 100000
set_option maxHeartbeats 4000000
namespace Dx
open PySem L2 PySem.Spec PyProof.Rows
end Dx
end S_DxAF
section S_DxAG
set_option Elab.async false
set_option linter.all false
set_option maxRecDepth 100000
set_option maxHeartbeats 4000000
namespace Dx
open PySem L2
end Dx
end S_DxAG
section S_DxAH
set_option Elab.async false
set_option linter.all false
set_option maxRecDepth 100000
set_option maxHeartbeats 2000000
namespace Dx
open PySem L2
end Dx
end S_DxAH
section S_DxAI
set_option Elab.async false
set_option linter.all false
set_option maxRecDepth 100000
set_option maxHeartbeats 2000000
namespace Dx
open PySem PySem.Spec L2 ItX PyProof.Rows
end Dx
end S_DxAI
section S_DxAJ
set_option Elab.async false
set_option linter.all false
set_option maxRecDepth 100000
set_option maxHeartbeats 2000000
namespace Dx
open PySem L2 ItX PyProof.Rows
section
variable {X : Cx} {c : Cf} {L G G' : List Ow} {f f1 : Rho → Res D} {fs gs : Rho → Res (List D)} {e o : Expr} {es : List Expr} {kws : List Keyword} {pos apos p : Pos} {C : Addr}
variable {k n : Nat} {fa : Addr} {fd : FuncData} {ps ks : List Str} {ms ms1 ms2 : List Bool} {rm : Bool} {F : List D → Res D}
theorem RpM.length {S H : Hp} : ∀ {ms : List Bool} {vs : List V} {ds : List D}, RpM c S H ms vs ds → vs.length = ms.length
  | [], vs, ds, h => by cases vs <;> cases ds <;> first | rfl | exact h.elim
  | b :: ms, vs, ds, h => by
    cases vs with
    | nil => cases b <;> cases ds <;> exact h.elim
    | cons v vs => cases ds with
      | nil => cases b <;> exact h.elim
      | cons d ds => cases b <;> exact congrArg Nat.succ (RpM.length h.2)
end
end Dx
end S_DxAJ
section S_DxAK
set_option Elab.async false
set_option linter.all false
set_option maxRecDepth 100000
set_option maxHeartbeats 2000000
namespace Dx
open PySem PySem.Spec L2 ItX PyProof.Rows
end Dx
end S_DxAK
section S_DxAL
set_option Elab.async false
set_option linter.all false
set_option maxRecDepth 100000
set_option maxHeartbeats 2000000
namespace Dx
open PySem PySem.Spec L2 ItX PyProof.Rows
theorem _root_.L2H.RoomH.units {k : Nat} {A : Around} (r : L2H.RoomH k A) : A.units + 64 < cLine := by have := r.un; omega
section
variable {X : Cx} {c : Cf} {L G G' : List Ow} {f f1 : Rho → Res D} {fs : Rho → Res (List D)} {e o : Expr} {es : List Expr} {pos p : Pos}
variable {k : Nat} {fa : Addr} {fd : FuncData} {ps : List Str} {ms : List Bool} {rm : Bool} {F : List D → Res D} {x : Str}
/-- what is never reached -/
theorem ds_bad {sts : List Stmt} : PSs X sts (sD c L G G' fun _ => .bad) := ⟨fun pins s σ H E I h => by
  obtain ⟨S0, H0, S, r, ok, p⟩ := h
  exact False.elim p⟩
end
end Dx
end S_DxAL
section S_DxAM
set_option Elab.async false
set_option linter.all false
set_option maxRecDepth 100000
set_option maxHeartbeats 2000000
namespace Dx
open PySem L2 ItX
end Dx
end S_DxAM
section S_DxAN
set_option Elab.async false
set_option linter.all false
set_option maxRecDepth 100000
set_option maxHeartbeats 2000000
namespace Dx
open PySem L2 ItX
open PyProof.Rows hiding St
end Dx
end S_DxAN
section S_DxAO
set_option Elab.async false
set_option linter.all false
set_option maxRecDepth 100000
set_option maxHeartbeats 2000000
namespace Dx
open PySem L2 ItX
open PyProof.Rows hiding St
def rem (H : Hp) (p : Addr) : Hp := fun a => if a = p then none else H a
theorem rem_ne {H : Hp} {p a : Addr} (h : a ≠ p) : rem H p a = H a := if_neg h
theorem Ex.rem {S H : Hp} {p : Addr} (e : Ex S H) (n : S p = none) : Ex S (rem H p) := fun a o h => by
  have : a ≠ p := fun z => by subst z; rw [n] at h; cases h
  rw [rem_ne this]; exact e a o h
section
variable {c : Cf} {S0 H0 S H S' H' : Hp} {G : List Ow} {σ : St} {r : Rho}
/-- the own object in slot i is given away -/
theorem EnvOk.take (e : EnvOk c S0 H0 G S H σ r) {i : Nat} {d : D} {p : Addr} (k : kd G i = .o) (h : r[i]? = some (some d)) (hs : σ[i]? = some (some (.ref p))) (s3 : S p = none) (s4 : H0 p = none) : EnvOk c S0 H0 (G.set i .v) S (rem H p) σ (r.set i none) := by
  have sl : ∀ {j : Nat} {b : D}, (r.set i none)[j]? = some (some b) → i ≠ j ∧ r[j]? = some (some b) := fun {j b} hb => by
    rcases set_some hb with ⟨_, ea, _⟩ | ⟨ne, hb⟩
    · cases ea
    · exact ⟨ne, hb⟩
  refine ⟨⟨e.fwd.s, e.fwd.h.rem s4, e.fwd.sub.rem s3, e.fwd.new⟩, by rw [List.length_set]; exact e.len, fun j b hb => ?_, fun j l b b' q hj hl kj kl sj sl' => ?_, let ⟨A, hA⟩ := e.sto; ⟨A, ?_⟩⟩
  · obtain ⟨ne, hb⟩ := sl hb
    obtain ⟨v, h1, h2⟩ := e.slot j b hb
    refine ⟨v, h1, ?_⟩
    rw [kd_set_ne ne]
    cases kj : kd G j with
    | o =>
      rw [kj] at h2
      obtain ⟨q, ho, z1, z2, z3, z4, z5⟩ := h2
      subst z1
      have hq : q ≠ p := fun z => by subst z; exact ne (e.sep i j d b q h hb (isO_o k) (isO_o kj) hs h1)
      exact ⟨q, ho, rfl, by rw [rem_ne hq]; exact z2, z3, z4, z5⟩
    | i a =>
      rw [kj] at h2
      obtain ⟨z0, q, ho, z1, z2, z3, z4, z5⟩ := h2
      subst z1
      have hq : q ≠ p := fun z => by subst z; exact ne (e.sep i j d b q h hb (isO_o k) (by rw [kj]; trivial) hs h1)
      exact ⟨z0, q, ho, rfl, by rw [rem_ne hq]; exact z2, z3, z4, z5⟩
    | v => rw [kj] at h2; exact h2
    | b => rw [kj] at h2; exact h2
    | s P => rw [kj] at h2; exact h2
    | w => rw [kj] at h2; exact h2
    | x a C dd => rw [kj] at h2; exact h2
  · obtain ⟨n1, hj⟩ := sl hj
    obtain ⟨n2, hl⟩ := sl hl
    rw [kd_set_ne n1] at kj
    rw [kd_set_ne n2] at kl
    exact e.sep j l b b' q hj hl kj kl sj sl'
  · have np : ∀ a ∈ A, a ≠ p := fun a ha z => hA.own i d p h (isO_o k) hs (z ▸ ha)
    refine hA.sub (fun a ha => (hA.out a ha).1) (fun a ha => rem_ne (np a ha)) Ex.refl (fun j b q hj kj sj => ?_) fun j b kj hj => ?_
    · obtain ⟨n1, hj⟩ := sl hj
      rw [kd_set_ne n1] at kj
      exact hA.own j b q hj kj sj
    · obtain ⟨n1, hj⟩ := sl hj
      rw [kd_set_ne n1]
      exact ⟨rfl, hj, rfl⟩
end
end Dx
end S_DxAO
section S_DxAP
set_option Elab.async false
set_option linter.all false
set_option maxRecDepth 100000
set_option maxHeartbeats 2000000
namespace PySem
end PySem
namespace RZ
open PySem
open PySem.Sem (wp)
section
variable {prog : Program} {w : World} {A : Around} {E : Value → Shared → Prop} {s : Shared}
abbrev IsSeq (h : Heap) (T : Addr) (xs : Array Value) : Prop := h.get? T = some { cls := .type "tuple", data := .seq xs }
theorem updateSeq_seq {T : Addr} {xs : Array Value} {x : Value} {k : Nat} {Q : Unit → Shared → Prop} (hn : xs.size ≤ sizeLine) (hT : IsSeq s.heap T xs)
    (h : ∀ h', IsSeq h' T (xs.setIfInBounds k x) → Heap.SameBut T s.heap h' → Q () { s with heap := h' }) :
    wpAny (model prog w) A (updateSeq T (·.setIfInBounds k x)) Q E s := by
  refine wpAny_updateSeq hT rfl (h _ ?_ (Heap.SameBut.update ..)) (hz := hn)
  show (s.heap.update T _).get? T = _
  rw [Heap.get?_update_self _ hT rfl]
  simp [Obj.mapSeq]
end
end RZ
end S_DxAP
section S_DxAR
set_option Elab.async false
set_option linter.all false
set_option maxRecDepth 100000
set_option maxHeartbeats 2000000
namespace Dx
open PySem L2 ItX
open PyProof.Rows hiding St
def seqT : D → Option (List D)
  | .tup ds => some ds
  | .kt ds => some ds
  | _ => none
theorem seqT_v {K : PySem.W.Frag} {cm : CM} {S : Hp} {v : V} {d : D} {ds : List D} (h : Rp K cm S v d) (q : seqT d = some ds) : ∃ a xs, v = .ref a ∧ SqT K S a xs ∧ RpA K cm S xs ds := by
  cases d with
  | tup es =>
    cases q
    cases h with | tup h1 r => exact ⟨_, _, rfl, .inl (.inl h1), r⟩
  | kt es =>
    cases q
    cases h with | kt h1 r => exact ⟨_, _, rfl, h1, r⟩
  | _ => cases q
end Dx
end S_DxAR
section S_DxAS
set_option Elab.async false
set_option linter.all false
set_option maxRecDepth 100000
set_option maxHeartbeats 2000000
namespace Dx
open PySem L2 ItX
open PyProof.Rows hiding St
end Dx
end S_DxAS
section S_DxAT
set_option Elab.async false
set_option linter.all false
set_option maxRecDepth 100000
set_option maxHeartbeats 2000000
namespace Dx
open PySem L2 ItX
open PyProof.Rows hiding St
end Dx
end S_DxAT
section S_DxAU
set_option Elab.async false
set_option linter.all false
set_option maxRecDepth 100000
set_option maxHeartbeats 2000000
namespace Dx
open PySem L2 ItX
open PyProof.Rows hiding St
end Dx
end S_DxAU
section S_DxAV
set_option Elab.async false
set_option linter.all false
set_option maxRecDepth 100000
set_option maxHeartbeats 2000000
namespace Dx
open PySem L2 ItX
open PyProof.Rows hiding St
end Dx
end S_DxAV
section S_DxAW
set_option Elab.async false
set_option linter.all false
set_option maxRecDepth 100000
set_option maxHeartbeats 2000000
namespace Dx
open PySem L2 HandSPX
open PyProof.Rows hiding St
end Dx
end S_DxAW
section S_DxAX
set_option Elab.async false
set_option linter.all false
set_option maxRecDepth 100000
set_option maxHeartbeats 2000000
namespace Dx
open PySem L2 PySem.Spec
open PyProof.Rows hiding St passOn frameOf
end Dx
end S_DxAX
section S_DxAY
set_option Elab.async false
set_option linter.all false
set_option maxRecDepth 100000
set_option maxHeartbeats 2000000
namespace Dx
open PySem L2
open PyProof.Rows hiding St
end Dx
end S_DxAY
section S_DxAZ
set_option Elab.async false
set_option linter.all false
set_option maxRecDepth 100000
set_option maxHeartbeats 2000000
namespace Dx
open PySem L2
open PyProof.Rows hiding St
section
variable {X : Cx} {c : Cf} {L G G' : List Ow} {σ : St} {S0 H0 S H S' H' : Hp} {r : Rho} {pos : Pos} {e : Expr}
theorem RmA.snoc {A : List Addr} {xs : List V} {row : List D} {v : V} {d : D} (h : RmA c.K c.cm A S xs row) (hv : RmV c.K c.cm A S v d) : RmA c.K c.cm A S (xs ++ [v]) (row ++ [d]) := by
  refine ⟨by rw [List.length_append, List.length_append, h.1]; rfl, fun i u b hu hb => ?_⟩
  by_cases hi : i < row.length
  · rw [List.getElem?_append_left (by rw [h.1]; exact hi)] at hu
    rw [List.getElem?_append_left hi] at hb
    exact h.2 i u b hu hb
  · rw [List.getElem?_append_right (by rw [h.1]; omega), h.1] at hu
    rw [List.getElem?_append_right (by omega)] at hb
    cases hz : i - row.length with
    | zero =>
      rw [hz] at hu hb
      cases hu; cases hb
      exact hv
    | succ n =>
      rw [hz] at hb
      simp at hb
variable {a b : Expr} {f1 f2 : Rho → Res D} {p1 p2 : Pos}
def shD (n : Nat) : D → D
  | .own j => .own (n + j)
  | d => d
end
end Dx
end S_DxAZ
section S_DxBA
set_option Elab.async false
set_option linter.all false
set_option maxRecDepth 100000
set_option maxHeartbeats 2000000
namespace Dx
open PySem L2
open PyProof.Rows hiding St
end Dx
end S_DxBA
section S_DxBB
set_option Elab.async false
set_option linter.all false
set_option maxRecDepth 100000
set_option maxHeartbeats 2000000
namespace Dx
open PySem L2
open PyProof.Rows hiding St
section
variable {X : Cx} {c : Cf} {L G G' : List Ow} {σ : St} {S0 H0 S H S' H' : Hp} {r : Rho} {pos : Pos} {e : Expr}
theorem RmV.plain {A : List Addr} {v : V} {d : D} (h : RmV c.K c.cm A S v d) (ho : isOwn d = false) : Rp c.K c.cm S v d := by
  rcases h with h | ⟨j, a, e, _⟩
  · exact h
  · subst e; cases ho
end
end Dx
end S_DxBB
section S_DxBC
set_option Elab.async false
set_option linter.all false
set_option maxRecDepth 100000
set_option maxHeartbeats 2000000
namespace Dx
open PySem L2
open PyProof.Rows hiding St
inductive ModR (K : PySem.W.Frag) : List DictEntry → List (Str × D) → Prop
  | nil : ModR K [] []
  | cons {h : Int} {x y : Str} {t : Tok} {u : Value} {r : List DictEntry} {v : V} {d : D} {rows : List (Str × D)} (h0 : x = y) (h2 : RelV v u) (h3 : ∀ (cm : CM) S, Rp K cm S v d) (h4 : ModR K r rows) :
      ModR K (⟨h, .str x t, u⟩ :: r) ((y, d) :: rows)
def lookD : List (Str × D) → Str → Option D
  | [], _ => none
  | (x, d) :: r, z => if x = z then some d else lookD r z
theorem ModR.find {K : PySem.W.Frag} : ∀ {es : List DictEntry} {rows : List (Str × D)}, ModR K es rows → ∀ z : Str,
    (lookD rows z = none ∧ (es.find? fun e => Value.isStrOf z e.key) = none) ∨ ∃ d v e, lookD rows z = some d ∧ (es.find? fun e => Value.isStrOf z e.key) = some e ∧ RelV v e.val ∧ ∀ (cm : CM) S, Rp K cm S v d
  | _, _, .nil, z => .inl ⟨rfl, rfl⟩
  | _, _, .cons (h := h) (x := x) (t := t) (u := u) (r := r) (v := v) (d := d) (rows := rows) h0 h2 h3 h4, z => by
    subst h0
    by_cases e : x = z
    · subst e
      refine .inr ⟨d, v, ⟨h, .str x t, u⟩, by unfold lookD; rw [if_pos rfl], ?_, h2, h3⟩
      rw [List.find?_cons_of_pos]
      show (x == x) = true
      simp
    · have q : (List.find? (fun e => Value.isStrOf z e.key) ((⟨h, .str x t, u⟩ : DictEntry) :: r)) = List.find? (fun e => Value.isStrOf z e.key) r := List.find?_cons_of_neg (by
        show ¬ (x == z) = true
        intro w
        exact e (eq_of_beq w))
      rw [q]
      have q2 : lookD ((x, d) :: rows) z = lookD rows z := by
        show (if x = z then some d else lookD rows z) = _
        rw [if_neg e]
      rw [q2]
      exact h4.find z
def ModD (K : PySem.W.Frag) (w : World) (a : Addr) (rows : List (Str × D)) : Prop := ∃ es n, KDict K w a es n ∧ ModR K es.toList rows
theorem ModD.mk {K : PySem.W.Frag} {w : World} {a : Addr} {es : List DictEntry} {n : Nat} {rows : List (Str × D)} (h1 : K.lookup a = some ⟨.type "dict", none, .dict es.toArray n, #[]⟩) (h2 : PySem.W.KeysLit w.params es) (h3 : (a == sysModules) = false) (h4 : ModR K es rows) :
    ModD K w a rows := ⟨_, n, ⟨h1, by simpa using h2, h3⟩, by simpa using h4⟩
section
variable {X : Cx} {c : Cf} {G : List Ow} {f1 : Rho → Res D} {a b : Expr} {pos : Pos} {k : Addr} {rows : List (Str × D)}
theorem ModR.findBy {K : PySem.W.Frag} {es : Array DictEntry} (h : ModR K es.toList rows) (z : Str) :
    (lookD rows z = none ∧ PySem.findBy Value.isStrOf es z = none) ∨ ∃ d v u, lookD rows z = some d ∧ PySem.findBy Value.isStrOf es z = some u ∧ RelV v u ∧ ∀ (cm : CM) S, Rp K cm S v d := by
  unfold PySem.findBy
  rw [← Array.find?_toList]
  rcases h.find z with ⟨h1, h2⟩ | ⟨d, v, e, h1, h2, h3⟩
  · exact .inl ⟨h1, by rw [h2]; rfl⟩
  · exact .inr ⟨d, v, e.val, h1, by rw [h2]; rfl, h3⟩
def mdIn (neg : Bool) (rows : List (Str × D)) : D → Res D
  | .str z => .ok (.bl (if neg = true then !(lookD rows z).isSome else (lookD rows z).isSome))
  | _ => .bad
def mdGet (rows : List (Str × D)) : D → Res D
  | .str z => match lookD rows z with
    | some d => .ok d
    | none => .bad
  | _ => .bad
theorem op_mdIn (D : ModD X.K X.w k rows) : OpR X (compareOp .In) (fun x y H Q => ∃ z : Str, x = .str z ∧ y = .ref k ∧ Q (.bl (lookD rows z).isSome) H) := by
  intro pins s σ H x y v u Q I rx ry h
  obtain ⟨z, rfl, rfl, q⟩ := h
  obtain ⟨es, n, D, R⟩ := D
  obtain ⟨t, rfl⟩ := rx
  cases ry
  refine wpAny_in_of (PySem.strKind_is X.prog X.w z t) D.low (PySem.W.mapOf_K (prog := X.prog) I.kIn D.at_ D.lit) ?_
  rcases R.findBy z with ⟨h1, h2⟩ | ⟨d, v, u, h1, h2, _⟩
  · rw [h2]; rw [h1] at q; exact ⟨.bl false, H, I.tok _, rfl, q⟩
  · rw [h2]; rw [h1] at q; exact ⟨.bl true, H, I.tok _, rfl, q⟩
theorem op_mdNin (D : ModD X.K X.w k rows) : OpR X (compareOp .NotIn) (fun x y H Q => ∃ z : Str, x = .str z ∧ y = .ref k ∧ Q (.bl (!(lookD rows z).isSome)) H) := by
  intro pins s σ H x y v u Q I rx ry h
  obtain ⟨z, rfl, rfl, q⟩ := h
  obtain ⟨es, n, D, R⟩ := D
  obtain ⟨t, rfl⟩ := rx
  cases ry
  refine wpAny_notIn_of (PySem.strKind_is X.prog X.w z t) D.low (PySem.W.mapOf_K (prog := X.prog) I.kIn D.at_ D.lit) ?_
  rcases R.findBy z with ⟨h1, h2⟩ | ⟨d, v, u, h1, h2, _⟩
  · rw [h2]; rw [h1] at q; exact ⟨.bl true, H, I.tok _, rfl, q⟩
  · rw [h2]; rw [h1] at q; exact ⟨.bl false, H, I.tok _, rfl, q⟩
theorem ix_md (D : ModD X.K X.w k rows) : IxR X (fun x y H Q => ∃ z d, x = .ref k ∧ y = .str z ∧ lookD rows z = some d ∧ ∀ v, (∀ (cm : CM) S, Rp X.K cm S v d) → Q v H) := by
  intro value slice pins s σ H x y v u Q I rx ry h hs
  obtain ⟨z, d, rfl, rfl, hz, q⟩ := h
  obtain ⟨es, n, D, R⟩ := D
  obtain rfl : v = Value.ref k := rx
  obtain ⟨t, rfl⟩ := ry
  have hm := PySem.W.mapOf_K (prog := X.prog) (w := X.w) I.kIn D.at_ D.lit
  rcases R.findBy z with ⟨h1, h2⟩ | ⟨d', v', u, h1, h2, h3, h4⟩
  · rw [h1] at hz; cases hz
  · rw [h1] at hz; cases hz
    exact tail_any hm.typeIs slot_dict_getitem.lookup (wpAny_getItem_of (PySem.strKind_is X.prog X.w z t) hm h2 ⟨v', H, I.tok _, h3, q v' h4⟩) hs
theorem md_rd {neg : Bool} : ∀ σ H Q, tV c G (dUn (mdIn neg rows) f1) σ H Q → tOp (fun x y H Q => ∃ z : Str, x = .str z ∧ y = .ref k ∧ Q (.bl (if neg = true then !(lookD rows z).isSome else (lookD rows z).isSome)) H) (tR c G f1) (tC (.ref k)) σ H Q :=
  fun σ H Q ⟨S0, H0, S, r, ok, p⟩ => rd_seq ok p fun d v S1 H1 w1 o1 m1 p1 => by
    unfold mdIn at p1
    split at p1
    · cases m1.str
      exact ⟨_, rfl, rfl, p1.go o1.ex _ (.bl _)⟩
    · exact p1.elim
theorem md_rdT {neg : Bool} : ∀ σ H Q, tT c G (dT (dUn (mdIn neg rows) f1)) σ H Q → tTest (tOp (fun x y H Q => ∃ z : Str, x = .str z ∧ y = .ref k ∧ Q (.bl (if neg = true then !(lookD rows z).isSome else (lookD rows z).isSome)) H) (tR c G f1) (tC (.ref k))) σ H Q :=
  fun σ H Q ⟨S0, H0, S, r, ok, p⟩ => md_rd (G := G) σ H _ (rd_seq ok p fun d v S1 H1 w1 o1 m1 p1 => by
    obtain ⟨b, rfl, p1⟩ := of_asB p1
    cases m1
    exact ⟨b, rfl, p1.go o1.ex _ rfl⟩)
theorem dt_mdIn (D : ModD X.K X.w k rows) (ha : PE X a (tR c G f1)) (hb : PE X b (tC (.ref k))) (hm : behindInMarks .In b = false) : PT X (.Compare a [.In] [b] pos) (tT c G (dT (dUn (mdIn false rows) f1))) :=
  pt_imp (pt_cmpR (op_mdIn D) ha hb hm) (md_rdT (neg := false))
theorem dt_mdNin (D : ModD X.K X.w k rows) (ha : PE X a (tR c G f1)) (hb : PE X b (tC (.ref k))) (hm : behindInMarks .NotIn b = false) : PT X (.Compare a [.NotIn] [b] pos) (tT c G (dT (dUn (mdIn true rows) f1))) :=
  pt_imp (pt_cmpR (op_mdNin D) ha hb hm) (md_rdT (neg := true))
/-- D[e] -/
theorem de_mdGet (D : ModD X.K X.w k rows) (ha : PE X a (tC (.ref k))) (hb : PE X b (tR c G f1)) (hs : PlainIx b) (hK : c.K = X.K := by rfl) : PE X (.Subscript a b pos) (tV c G (dUn (mdGet rows) f1)) :=
  pe_imp (pe_ix (ix_md D) ha hb hs) fun σ H Q ⟨S0, H0, S, r, ok, p⟩ => rd_seq ok p fun d v S1 H1 w1 o1 m1 p1 => by
    unfold mdGet at p1
    split at p1
    · split at p1
      · rename_i d hd
        cases m1.str
        exact ⟨_, d, rfl, rfl, hd, fun v hv => p1.go o1.ex _ (by show Rp c.K c.cm _ v d; rw [hK]; exact hv _ _)⟩
      · exact p1.elim
    · exact p1.elim
end
end Dx
end S_DxBC
section S_DxBD
set_option Elab.async false
set_option linter.all false
set_option maxRecDepth 100000
set_option maxHeartbeats 2000000
namespace Dx
open PySem L2 ItX
open PyProof.Rows hiding St
end Dx
end S_DxBD
section S_DxBE
set_option Elab.async false
set_option linter.all false
set_option maxRecDepth 100000
set_option maxHeartbeats 2000000
namespace Dx
open PySem L2 ItX
open PyProof.Rows hiding St
end Dx
end S_DxBE
section S_DxBF
set_option Elab.async false
set_option linter.all false
set_option maxRecDepth 100000
set_option maxHeartbeats 2000000
namespace PySem
namespace F
theorem typeCall_zipT2 (a b : Value) : checkTypeCall "zip" ⟨[a, b], []⟩ = pure () := by kernel_rfl
theorem newCall_zipT2 (a b : Value) : checkBuiltinCall "zip.__new__" ⟨[.type "zip", a, b], []⟩ = pure () := by kernel_rfl
theorem args_object_initT2 (a b c : Value) : argsOk "object.__init__" ⟨[a, b, c], []⟩ := by
  unfold argsOk; rw [signature?_of (id := "object.__init__") (n := ['_', '_', 't', 'i', 'n', 'i', '_', '_']) (o := ['t', 'c', 'e', 'j', 'b', 'o']) (by kernel_rfl) owner_object]; kernel_rfl
end F
end PySem
namespace RZ
open PySem
open PySem.Sem (wp)
section
variable {prog : Program} {w : World} {A : Around} {E : Value → Shared → Prop} {s : Shared}
structure ZapT2 (z TI TO i1 i2 l1 l2 : Addr) : Prop where
  n_TI_z : TI ≠ z
  n_TI_TO : TI ≠ TO
  n_TI_i1 : TI ≠ i1
  n_TI_i2 : TI ≠ i2
  n_TO_z : TO ≠ z
  n_TO_i1 : TO ≠ i1
  n_TO_i2 : TO ≠ i2
  n_z_TO : z ≠ TO
  n_z_i1 : z ≠ i1
  n_z_i2 : z ≠ i2
  n_i1_z : i1 ≠ z
  n_i1_TO : i1 ≠ TO
  n_i1_i2 : i1 ≠ i2
  n_i2_z : i2 ≠ z
  n_i2_TO : i2 ≠ TO
  n_i2_i1 : i2 ≠ i1
  n_l1_z : l1 ≠ z
  n_l1_TO : l1 ≠ TO
  n_l1_i1 : l1 ≠ i1
  n_l1_i2 : l1 ≠ i2
  n_l2_z : l2 ≠ z
  n_l2_TO : l2 ≠ TO
  n_l2_i1 : l2 ≠ i1
  n_l2_i2 : l2 ≠ i2
theorem zipT2_next_item {z TI TO i1 i2 l1 l2 : Addr} {k : Nat} {xs1 xs2 : Array Value} {a1 a2 : Value} {x1 x2 : Value} {Q : Value → Shared → Prop} (D : ZapT2 z TI TO i1 i2 l1 l2)
    (hz : IsZip s.heap z TI TO .none) (hTI : IsSeq s.heap TI #[.ref i1, .ref i2]) (hTO : IsSeq s.heap TO #[a1, a2])
    (h1 : s.heap.IsTupleIter i1 l1 k) (h2 : s.heap.IsTupleIter i2 l2 k)
    (q1 : s.heap.IsTuple l1 xs1) (q2 : s.heap.IsTuple l2 xs2)
    (e1 : xs1[k]? = some x1) (e2 : xs2[k]? = some x2)
    (hQ : ∀ h', IsZip h' z TI TO (rawInt s.heap.objs.size) → IsSeq h' TO #[x1, x2] → h'.IsTupleIter i1 l1 (k + 1) → h'.IsTupleIter i2 l2 (k + 1) → IsSeq h' s.heap.objs.size #[x1, x2] → h'.objs.size = s.heap.objs.size + 1 →
      (∀ c o, c ≠ z → c ≠ TO → c ≠ i1 → c ≠ i2 → s.heap.get? c = some o → h'.get? c = some o) → Q (.ref s.heap.objs.size) { s with heap := h' }) :
    wpAny (model prog w) A (Builtin.«zip.__next__» ⟨[.ref z], []⟩) (fun fin s' => ∃ v, fin = .done (.ret v) ∧ Q v s') E s := by
  show wpAny _ _ (field (.ref z) 2 >>= _) _ _ _
  refine wpAny_bind (wpAny_field hz rfl (x := .bool false) rfl ?_)
  show wpAny _ _ (field (.ref z) 3 >>= _) _ _ _
  refine wpAny_bind (wpAny_field hz rfl (x := .ref TI) rfl ?_)
  refine wpAny_bind (wpAny_seqItems hTI rfl ?_)
  show wpAny _ _ (Builtin.SmallTypes.ownedTupleIsFree (.ref z) >>= _) _ _ _
  refine wpAny_bind ?_
  unfold Builtin.SmallTypes.ownedTupleIsFree
  refine wpAny_bind (wpAny_field hz rfl (x := .none) rfl (wpAny_pure ?_))
  simp only [if_true]
  refine wpAny_bind (wpAny_rule ?_)
  refine wpAny_bind (wpAny_field hz rfl (x := .ref TO) rfl ?_)
  refine wpAny_bind (wpAny_setField_rec hz (by simp) fun g0 hz0 hs0 => ?_)
  replace hz0 : IsZip g0 z TI TO .ellipsis := hz0
  refine wpAny_bind ?_
  simp only [List.zipIdx_cons, List.zipIdx_nil, List.forIn_cons, List.forIn_nil]
  refine wpAny_bind (wpAny_bind (wpAny_onRaise ?_))
  show wpAny _ _ (Builtin.SmallTypes.nextOf (.ref i1) >>= _) _ _ _
  refine wpAny_bind (nextOf_tuple_item (h1.extBut hs0.extBut D.n_i1_z) (q1.extBut hs0.extBut D.n_l1_z) e1 fun n1 hn1 hsn1 => wpAny_pure ?_)
  have hTOn1 : IsSeq n1 TO #[a1, a2] := (hsn1.extBut _ _ D.n_TO_i1 (hs0.extBut _ _ D.n_TO_z hTO))
  refine wpAny_bind (wpAny_seqItems hTOn1 rfl ?_)
  refine wpAny_bind (updateSeq_seq (by show 2 ≤ sizeLine; decide) hTOn1 fun u1 hTOu1 hsu1 => ?_)
  replace hTOu1 : IsSeq u1 TO #[x1, a2] := hTOu1
  refine wpAny_bind (wpAny_letGo (wpAny_pure ?_))
  refine wpAny_bind (wpAny_bind (wpAny_onRaise ?_))
  show wpAny _ _ (Builtin.SmallTypes.nextOf (.ref i2) >>= _) _ _ _
  refine wpAny_bind (nextOf_tuple_item (((h2.extBut hs0.extBut D.n_i2_z).extBut hsn1.extBut D.n_i2_i1).extBut hsu1.extBut D.n_i2_TO) (((q2.extBut hs0.extBut D.n_l2_z).extBut hsn1.extBut D.n_l2_i1).extBut hsu1.extBut D.n_l2_TO) e2 fun n2 hn2 hsn2 => wpAny_pure ?_)
  have hTOn2 : IsSeq n2 TO #[x1, a2] := (hsn2.extBut _ _ D.n_TO_i2 hTOu1)
  refine wpAny_bind (wpAny_seqItems hTOn2 rfl ?_)
  refine wpAny_bind (updateSeq_seq (by show 2 ≤ sizeLine; decide) hTOn2 fun u2 hTOu2 hsu2 => ?_)
  replace hTOu2 : IsSeq u2 TO #[x1, x2] := hTOu2
  refine wpAny_bind (wpAny_letGo (wpAny_pure (wpAny_pure ?_)))
  refine wpAny_bind (wpAny_seqItems hTOu2 rfl ?_)
  refine wpAny_bind (wpAny_newTuple ?_)
  have hsz : u2.objs.size = s.heap.objs.size := by rw [hsu2.1, hsn2.1, hsu1.1, hsn1.1, hs0.1]
  have hzL : IsZip u2 z TI TO .ellipsis := (hsu2.extBut _ _ D.n_z_TO (hsn2.extBut _ _ D.n_z_i2 (hsu1.extBut _ _ D.n_z_TO (hsn1.extBut _ _ D.n_z_i1 hz0))))
  have hkL : ∀ c o, c ≠ z → c ≠ TO → c ≠ i1 → c ≠ i2 → s.heap.get? c = some o → u2.get? c = some o := fun c o c1 c2 d1 d2 e => (hsu2.extBut _ _ c2 (hsn2.extBut _ _ d2 (hsu1.extBut _ _ c2 (hsn1.extBut _ _ d1 (hs0.extBut _ _ c1 e)))))
  have hL1 : u2.IsTupleIter i1 l1 (k + 1) := (((hn1.extBut hsu1.extBut D.n_i1_TO).extBut hsn2.extBut D.n_i1_i2).extBut hsu2.extBut D.n_i1_TO)
  have hL2 : u2.IsTupleIter i2 l2 (k + 1) := (hn2.extBut hsu2.extBut D.n_i2_TO)
  have hzlt : z < u2.objs.size := Heap.lt_size hzL
  have hTOlt : TO < u2.objs.size := Heap.lt_size hTOu2
  show wpAny _ _ (Builtin.SmallTypes.ownedTupleHandOut (.ref z) (.ref u2.objs.size) >>= _) _ _ _
  refine wpAny_bind ?_
  unfold Builtin.SmallTypes.ownedTupleHandOut
  have hz6 : IsZip (u2.push { cls := .type "tuple", data := .seq #[x1, x2] }) z TI TO .ellipsis := Heap.get?_push_of_some _ hzL
  refine wpAny_bind (wpAny_setField_rec hz6 (by simp) fun h7 hz7 hs7 => ?_)
  replace hz7 : IsZip h7 z TI TO (rawInt u2.objs.size) := hz7
  refine wpAny_setField_rec hz7 (by simp) fun h8 hz8 hs8 => ?_
  replace hz8 : IsZip h8 z TI TO (rawInt u2.objs.size) := hz8
  have up : ∀ c o, c ≠ z → u2.get? c = some o → h8.get? c = some o := fun c o c1 e => hs8.extBut _ _ c1 (hs7.extBut _ _ c1 (Heap.get?_push_of_some _ e))
  have hT8 : IsSeq h8 u2.objs.size #[x1, x2] := hs8.extBut _ _ (Nat.ne_of_gt hzlt) (hs7.extBut _ _ (Nat.ne_of_gt hzlt) (Heap.get?_push_size _ rfl))
  have hz9 : h8.objs.size = u2.objs.size + 1 := by rw [hs8.1, hs7.1, Heap.size_push]
  rw [hsz] at hz8 hT8 hz9
  refine wpAny_pure ⟨_, rfl, ?_⟩
  show Q (.ref u2.objs.size) _
  rw [hsz]
  exact hQ h8 hz8 (up _ _ D.n_TO_z hTOu2) (hL1.at fun o e => up _ o D.n_i1_z e) (hL2.at fun o e => up _ o D.n_i2_z e) hT8 hz9 fun c o c1 c2 d1 d2 e => up c o c1 (hkL c o c1 c2 d1 d2 e)
theorem zipT2_next_end {z TI TO i1 i2 l1 l2 : Addr} {k : Nat} {xs1 xs2 : Array Value} {a1 a2 : Value} {Q : Fin → Shared → Prop} (hh : A.handled = none) (D : ZapT2 z TI TO i1 i2 l1 l2)
    (hz : IsZip s.heap z TI TO .none) (hTI : IsSeq s.heap TI #[.ref i1, .ref i2]) (hTO : IsSeq s.heap TO #[a1, a2])
    (h1 : s.heap.IsTupleIter i1 l1 k) (h2 : s.heap.IsTupleIter i2 l2 k)
    (q1 : s.heap.IsTuple l1 xs1) (q2 : s.heap.IsTuple l2 xs2)
    (hend : xs1[k]? = none ∨ xs2[k]? = none)
    (hE : ∀ h' e, (∀ c o, c ≠ z → c ≠ TO → c ≠ i1 → c ≠ i2 → s.heap.get? c = some o → h'.get? c = some o) → (∃ o, h'.get? e = some o ∧ o.cls = .type "StopIteration") → E (.ref e) { s with heap := h' }) :
    wpAny (model prog w) A (Builtin.«zip.__next__» ⟨[.ref z], []⟩) Q E s := by
  show wpAny _ _ (field (.ref z) 2 >>= _) _ _ _
  refine wpAny_bind (wpAny_field hz rfl (x := .bool false) rfl ?_)
  show wpAny _ _ (field (.ref z) 3 >>= _) _ _ _
  refine wpAny_bind (wpAny_field hz rfl (x := .ref TI) rfl ?_)
  refine wpAny_bind (wpAny_seqItems hTI rfl ?_)
  show wpAny _ _ (Builtin.SmallTypes.ownedTupleIsFree (.ref z) >>= _) _ _ _
  refine wpAny_bind ?_
  unfold Builtin.SmallTypes.ownedTupleIsFree
  refine wpAny_bind (wpAny_field hz rfl (x := .none) rfl (wpAny_pure ?_))
  simp only [if_true]
  refine wpAny_bind (wpAny_rule ?_)
  refine wpAny_bind (wpAny_field hz rfl (x := .ref TO) rfl ?_)
  refine wpAny_bind (wpAny_setField_rec hz (by simp) fun g0 hz0 hs0 => ?_)
  replace hz0 : IsZip g0 z TI TO .ellipsis := hz0
  refine wpAny_bind ?_
  simp only [List.zipIdx_cons, List.zipIdx_nil, List.forIn_cons, List.forIn_nil]
  refine wpAny_bind (wpAny_bind (wpAny_onRaise ?_))
  show wpAny _ _ (Builtin.SmallTypes.nextOf (.ref i1) >>= _) _ _ _
  cases e1 : xs1[k]? with
  | none =>
    refine wpAny_bind (nextOf_tuple_end hh (h1.extBut hs0.extBut D.n_i1_z) (q1.extBut hs0.extBut D.n_l1_z) e1 fun hf e EX he => ?_)
    obtain ⟨oe, hoe, hce⟩ := he
    have hzf : IsZip hf z TI TO .ellipsis := (EX _ _ D.n_z_i1 hz0)
    have hez : e ≠ z := fun x => by subst x; rw [hzf] at hoe; cases hoe; simp at hce
    refine wpAny_setField_rec hzf (by simp) fun hg _ hsg => hE hg e (fun c o c1 c2 d1 d2 x => hsg.extBut _ _ c1 (EX _ _ d1 (hs0.extBut _ _ c1 x))) ⟨oe, hsg.extBut _ _ hez hoe, hce⟩
  | some x1 =>
    refine wpAny_bind (nextOf_tuple_item (h1.extBut hs0.extBut D.n_i1_z) (q1.extBut hs0.extBut D.n_l1_z) e1 fun n1 hn1 hsn1 => wpAny_pure ?_)
    have hTOn1 : IsSeq n1 TO #[a1, a2] := (hsn1.extBut _ _ D.n_TO_i1 (hs0.extBut _ _ D.n_TO_z hTO))
    refine wpAny_bind (wpAny_seqItems hTOn1 rfl ?_)
    refine wpAny_bind (updateSeq_seq (by show 2 ≤ sizeLine; decide) hTOn1 fun u1 hTOu1 hsu1 => ?_)
    replace hTOu1 : IsSeq u1 TO #[x1, a2] := hTOu1
    refine wpAny_bind (wpAny_letGo (wpAny_pure ?_))
    refine wpAny_bind (wpAny_bind (wpAny_onRaise ?_))
    show wpAny _ _ (Builtin.SmallTypes.nextOf (.ref i2) >>= _) _ _ _
    cases e2 : xs2[k]? with
    | none =>
      refine wpAny_bind (nextOf_tuple_end hh (((h2.extBut hs0.extBut D.n_i2_z).extBut hsn1.extBut D.n_i2_i1).extBut hsu1.extBut D.n_i2_TO) (((q2.extBut hs0.extBut D.n_l2_z).extBut hsn1.extBut D.n_l2_i1).extBut hsu1.extBut D.n_l2_TO) e2 fun hf e EX he => ?_)
      obtain ⟨oe, hoe, hce⟩ := he
      have hzf : IsZip hf z TI TO .ellipsis := (EX _ _ D.n_z_i2 (hsu1.extBut _ _ D.n_z_TO (hsn1.extBut _ _ D.n_z_i1 hz0)))
      have hez : e ≠ z := fun x => by subst x; rw [hzf] at hoe; cases hoe; simp at hce
      refine wpAny_setField_rec hzf (by simp) fun hg _ hsg => hE hg e (fun c o c1 c2 d1 d2 x => hsg.extBut _ _ c1 (EX _ _ d2 (hsu1.extBut _ _ c2 (hsn1.extBut _ _ d1 (hs0.extBut _ _ c1 x))))) ⟨oe, hsg.extBut _ _ hez hoe, hce⟩
    | some x2 =>
      rcases hend with h | h
      · rw [e1] at h; cases h
      · rw [e2] at h; cases h
theorem pyNext_zipT2_item {z TI TO i1 i2 l1 l2 : Addr} {k : Nat} {xs1 xs2 : Array Value} {a1 a2 : Value} {x1 x2 : Value} {Q : Option Value → Shared → Prop} (D : ZapT2 z TI TO i1 i2 l1 l2)
    (hz : IsZip s.heap z TI TO .none) (hTI : IsSeq s.heap TI #[.ref i1, .ref i2]) (hTO : IsSeq s.heap TO #[a1, a2])
    (h1 : s.heap.IsTupleIter i1 l1 k) (h2 : s.heap.IsTupleIter i2 l2 k)
    (q1 : s.heap.IsTuple l1 xs1) (q2 : s.heap.IsTuple l2 xs2)
    (e1 : xs1[k]? = some x1) (e2 : xs2[k]? = some x2)
    (hQ : ∀ h', IsZip h' z TI TO (rawInt s.heap.objs.size) → IsSeq h' TO #[x1, x2] → h'.IsTupleIter i1 l1 (k + 1) → h'.IsTupleIter i2 l2 (k + 1) → IsSeq h' s.heap.objs.size #[x1, x2] → h'.objs.size = s.heap.objs.size + 1 →
      (∀ c o, c ≠ z → c ≠ TO → c ≠ i1 → c ≠ i2 → s.heap.get? c = some o → h'.get? c = some o) → Q (some (.ref s.heap.objs.size)) { s with heap := h' }) : wpAny (model prog w) A (pyNext (.ref z)) Q E s := by
  have hT : s.TypeIs (.ref z) "zip" := ⟨_, hz, rfl⟩
  unfold pyNext
  exact wpAny_bind (wpAny_attempt (wpAny_callSpecial?_slot (name := Str.ofString "__next__") hT F.slot_zip_next
    (wpAny_call_entry F.slot_zip_next hT F.entry_zip_next
      (zipT2_next_item D hz hTI hTO h1 h2 q1 q2 e1 e2 fun h' b0 b1 b2 b3 b4 b5 b6 => wpAny_pure (hQ h' b0 b1 b2 b3 b4 b5 b6)) (F.args_zip_next_1 _))))
theorem pyNext_zipT2_end {z TI TO i1 i2 l1 l2 : Addr} {k : Nat} {xs1 xs2 : Array Value} {a1 a2 : Value} {Q : Option Value → Shared → Prop} (hh : A.handled = none) (D : ZapT2 z TI TO i1 i2 l1 l2)
    (hz : IsZip s.heap z TI TO .none) (hTI : IsSeq s.heap TI #[.ref i1, .ref i2]) (hTO : IsSeq s.heap TO #[a1, a2])
    (h1 : s.heap.IsTupleIter i1 l1 k) (h2 : s.heap.IsTupleIter i2 l2 k)
    (q1 : s.heap.IsTuple l1 xs1) (q2 : s.heap.IsTuple l2 xs2)
    (hend : xs1[k]? = none ∨ xs2[k]? = none)
    (hQ : ∀ h', (∀ c o, c ≠ z → c ≠ TO → c ≠ i1 → c ≠ i2 → s.heap.get? c = some o → h'.get? c = some o) → Q none { s with heap := h' }) : wpAny (model prog w) A (pyNext (.ref z)) Q E s := by
  have hT : s.TypeIs (.ref z) "zip" := ⟨_, hz, rfl⟩
  unfold pyNext
  refine wpAny_bind (wpAny_attempt (wpAny_callSpecial?_slot (name := Str.ofString "__next__") hT F.slot_zip_next
    (wpAny_call_entry F.slot_zip_next hT F.entry_zip_next (zipT2_next_end hh D hz hTI hTO h1 h2 q1 q2 hend fun h' e hk he => ?_) (F.args_zip_next_1 _))))
  obtain ⟨o, ho, hc⟩ := he
  refine wpAny_bind (wpAny_isInstance (T := "StopIteration") (b := true) ⟨o, ho, hc⟩ isSubtype_stop ?_)
  exact wpAny_pure (hQ _ hk)
end
abbrev zipT2H1 (h : Heap) (l1 : Addr) : Heap := h.push { cls := .type "tuple_iterator", data := .fields #[.ref l1, .int 0 0] }
abbrev zipT2H2 (h : Heap) (l1 l2 : Addr) : Heap := (zipT2H1 h l1).push { cls := .type "tuple_iterator", data := .fields #[.ref l2, .int 0 0] }
abbrev zipT2H3 (h : Heap) (l1 l2 : Addr) : Heap := (zipT2H2 h l1 l2).push { cls := .type "tuple", data := .seq #[.ref h.objs.size, .ref (zipT2H1 h l1).objs.size] }
abbrev zipT2H4 (h : Heap) (l1 l2 : Addr) : Heap := (zipT2H3 h l1 l2).push { cls := .type "tuple", data := .seq #[.none, .none] }
abbrev zipT2H5 (h : Heap) (l1 l2 : Addr) : Heap := (zipT2H4 h l1 l2).push { cls := .type "zip", data := .fields #[.none, .bool false, .bool false, .ref (zipT2H2 h l1 l2).objs.size, .ref (zipT2H3 h l1 l2).objs.size] }
theorem meets_zipT2_new (l1 l2 : Addr) (xs1 xs2 : Array Value) :
    Meets (Builtin.«zip.__new__» ⟨[.type "zip", .ref l1, .ref l2], []⟩) (fun _ R s => s.heap.IsTuple l1 xs1 ∧ s.heap.IsTuple l2 xs2 ∧
      R (.ok (.ret (.ref (zipT2H4 s.heap l1 l2).objs.size))) { s with heap := zipT2H5 s.heap l1 l2 }) :=
  .of_wp fun prog w A R s h => by
    obtain ⟨hp, g, d, tk, os⟩ := s; obtain ⟨hl1, hl2, h⟩ := h
    have hsub := sub_zip
    have hL1 : Heap.IsTuple (Shared.heap ⟨hp, g, d, tk, os⟩) l1 xs1 := hl1
    have hL2 : Heap.IsTuple (Shared.heap ⟨zipT2H1 hp l1, g, d, tk, os⟩) l2 xs2 := (Heap.IsTuple.push hl2 _)
    wp_walk using wpAny_pyIter_tuple hL1, wpAny_pyIter_tuple hL2
    exact ⟨_, rfl, h⟩
section
variable {prog : Program} {w : World} {A : Around} {E : Value → Shared → Prop} {s : Shared}
theorem call_zipT2 {l1 l2 : Addr} {xs1 xs2 : Array Value} {Q : Value → Shared → Prop} (hl1 : s.heap.IsTuple l1 xs1) (hl2 : s.heap.IsTuple l2 xs2)
    (h : ∀ h', IsZip h' (s.heap.objs.size + 4) (s.heap.objs.size + 2) (s.heap.objs.size + 3) .none → IsSeq h' (s.heap.objs.size + 2) #[.ref s.heap.objs.size, .ref (s.heap.objs.size + 1)] → IsSeq h' (s.heap.objs.size + 3) #[.none, .none] → h'.IsTupleIter s.heap.objs.size l1 0 → h'.IsTupleIter (s.heap.objs.size + 1) l2 0 → h'.objs.size = s.heap.objs.size + 5 →
      (∀ c o, s.heap.get? c = some o → h'.get? c = some o) → Q (.ref (s.heap.objs.size + 4)) { s with heap := h' }) :
    wpAny (model prog w) A (call (.type "zip") [.ref l1, .ref l2]) Q E s := by
  refine callType_new F.called_zip (by decide) (F.typeCall_zipT2 _ _) (F.newCall_zipT2 _ _) (fun obj => F.args_object_initT2 obj _ _) F.entry_zip_new
    (meets_zipT2_new l1 l2 xs1 xs2) ⟨hl1, hl2, ?_⟩
  have z1 : (zipT2H1 s.heap l1).objs.size = s.heap.objs.size + 1 := Heap.size_push ..
  have z2 : (zipT2H2 s.heap l1 l2).objs.size = s.heap.objs.size + 2 := by rw [Heap.size_push, z1]
  have z3 : (zipT2H3 s.heap l1 l2).objs.size = s.heap.objs.size + 3 := by rw [Heap.size_push, z2]
  have z4 : (zipT2H4 s.heap l1 l2).objs.size = s.heap.objs.size + 4 := by rw [Heap.size_push, z3]
  have z5 : (zipT2H5 s.heap l1 l2).objs.size = s.heap.objs.size + 5 := by rw [Heap.size_push, z4]
  have g1 : (zipT2H5 s.heap l1 l2).get? s.heap.objs.size = some _ := (Heap.get?_push_of_some _ (Heap.get?_push_of_some _ (Heap.get?_push_of_some _ (Heap.get?_push_of_some _ (Heap.get?_push_size _ rfl)))))
  have g2 : (zipT2H5 s.heap l1 l2).get? (zipT2H1 s.heap l1).objs.size = some _ := (Heap.get?_push_of_some _ (Heap.get?_push_of_some _ (Heap.get?_push_of_some _ (Heap.get?_push_size _ rfl))))
  have g3 : (zipT2H5 s.heap l1 l2).get? (zipT2H2 s.heap l1 l2).objs.size = some _ := (Heap.get?_push_of_some _ (Heap.get?_push_of_some _ (Heap.get?_push_size _ rfl)))
  have g4 : (zipT2H5 s.heap l1 l2).get? (zipT2H3 s.heap l1 l2).objs.size = some _ := (Heap.get?_push_of_some _ (Heap.get?_push_size _ rfl))
  have g5 : (zipT2H5 s.heap l1 l2).get? (zipT2H4 s.heap l1 l2).objs.size = some _ := (Heap.get?_push_size _ rfl)
  show _ ∧ _
  rw [z1] at g2
  rw [z2] at g3
  rw [z3] at g4
  rw [z4] at g5
  rw [z1] at g3
  rw [z2, z3] at g5
  rw [z4]
  exact ⟨⟨_, g5, rfl⟩, h _ g5 g3 g4 ⟨_, g1, rfl, rfl⟩ ⟨_, g2, rfl, rfl⟩ z5 fun c o x => (Heap.get?_push_of_some _ (Heap.get?_push_of_some _ (Heap.get?_push_of_some _ (Heap.get?_push_of_some _ (Heap.get?_push_of_some _ x)))))⟩
end
end RZ
end S_DxBF
section S_DxBG
set_option Elab.async false
set_option linter.all false
set_option maxRecDepth 100000
set_option maxHeartbeats 2000000
namespace RZ
open PySem PySem.Spec PyProof.Rows L2
theorem zapT2_mk (I l1 l2 : Nat) (h1 : l1 < I) (h2 : l2 < I) : ZapT2 (I + 4) (I + 2) (I + 3) I (I + 1) l1 l2 := by
  constructor <;> (refine PySem.W.neN ?_; omega)
/-- the tuples at a, b, c, d as they stand at each turn, the items in new tuples -/
def ItzT2 (K : PySem.W.Frag) (a b : Addr) : It :=
  ⟨fun i H => ∃ (ws xs : List V) (p q : V), SqT K H a ws ∧ SqT K H b xs ∧ ws[i]? = some p ∧ xs[i]? = some q,
    fun i H v H' => ∃ T p q, v = .ref T ∧ H T = none ∧ H' = upd H T (.tup [p, q]) ∧ (∀ xs, SqT K H a xs → xs[i]? = some p) ∧ ∀ xs, SqT K H b xs → xs[i]? = some q,
    fun i H => ∃ ws xs : List V, SqT K H a ws ∧ SqT K H b xs ∧ (ws.length ≤ i ∨ xs.length ≤ i)⟩
theorem turn_zipT2 {P : Program} {w : World} {K : PySem.W.Frag} {elts : List Expr} {kk : Nat} {tpos : Pos} {a b z TI TO i1 i2 : Addr} (D : ZapT2 z TI TO i1 i2 a b) :
    Turn P w K (.Tuple elts kk tpos) (ItzT2 K a b) [z, TI, TO, i1, i2] z (fun i h => IsZip h z TI TO .none ∧ IsSeq h TI #[.ref i1, .ref i2] ∧ (∃ x1 x2, IsSeq h TO #[x1, x2]) ∧ h.IsTupleIter i1 a i ∧ h.IsTupleIter i2 b i) where
  mem := by simp
  obj := fun i h st c hc => by
    obtain ⟨hz, hTI, ⟨_, _, hTO⟩, ⟨o1, e1, _, d1⟩, ⟨o2, e2, _, d2⟩⟩ := st
    have e' : c = z ∨ c = TI ∨ c = TO ∨ c = i1 ∨ c = i2 := by simpa using hc
    rcases e' with q | q | q | q | q
    · rw [q]; exact ⟨_, hz, fun v q => nomatch q⟩
    · rw [q]; exact ⟨_, hTI, fun v q => nomatch q⟩
    · rw [q]; exact ⟨_, hTO, fun v q => nomatch q⟩
    · rw [q]; exact ⟨o1, e1, fun v q => by rw [d1] at q; cases q⟩
    · rw [q]; exact ⟨o2, e2, fun v q => by rw [d2] at q; cases q⟩
  keep := fun i h h' st k => by
    obtain ⟨hz, hTI, ⟨_, _, hTO⟩, h1, h2⟩ := st
    exact ⟨k z (by simp) _ hz, k TI (by simp) _ hTI, ⟨_, _, k TO (by simp) _ hTO⟩, h1.at fun o q => k i1 (by simp) o q, h2.at fun o q => k i2 (by simp) o q⟩
  item := by
    intro X hP hw hK hc i pins s σ H E I hf st hg
    subst hP hw hK
    obtain ⟨hz, hTI, ⟨_, _, hTO⟩, h1, h2⟩ := st
    obtain ⟨ws, xs, p, q, g1, g2, e1, e2⟩ := hg
    obtain ⟨t1, r1, p1, _⟩ := I.tuple g1
    obtain ⟨t2, r2, p2, _⟩ := I.tuple g2
    obtain ⟨u1, m1, v1⟩ := r1.get e1
    obtain ⟨u2, m2, v2⟩ := r2.get e2
    have hzl : z < s.heap.objs.size := Heap.lt_size hz
    refine pyNext_zipT2_item D hz hTI hTO h1 h2 p1 p2 (x1 := u1) (x2 := u2) (by simpa using m1) (by simpa using m2) fun h' z' TO' h1' h2' hT hsz hk => ?_
    refine ⟨_, rfl, wpAny_letOwnedTupleGo_zip (s := { s with heap := h' }) z' fun h'' z'' sb => ?_⟩
    have hT2 : h''.get? s.heap.objs.size = some { cls := .type "tuple", data := .seq #[u1, u2] } := (sb.2 _ (Nat.ne_of_gt hzl)).trans hT
    have new : ObjOk X.prog X.w (upd H s.heap.objs.size (.tup [p, q])) h'' s.heap.objs.size (.tup [p, q]) :=
      ⟨by show 2 ≤ sizeLine; decide, [u1, u2], .cons v1 (.cons v2 .nil), ⟨_, hT2, rfl, _, rfl⟩⟩
    have I1 : Inv X pins σ (upd H s.heap.objs.size (.tup [p, q])) { s with heap := h'' } :=
      I.turnedNew (t' := s.toks) (ch := [z, TI, TO, i1, i2]) (fun c o hb q => (sb.2 c (fun q' => hb (by simp [q']))).trans (hk c o (fun q' => hb (by simp [q'])) (fun q' => hb (by simp [q'])) (fun q' => hb (by simp [q'])) (fun q' => hb (by simp [q'])) q)) hf (Nat.le_refl _) new
    have keepz : ∀ c o, c ≠ z → h'.get? c = some o → h''.get? c = some o := fun c o n q => (sb.2 _ n).trans q
    refine ⟨.ref s.heap.objs.size, _, I1, rfl, ⟨_, p, q, rfl, I.hok.fresh (Nat.le_refl _), rfl, fun l hl => by rw [I.tuple_inj hl g1]; exact e1, fun l hl => by rw [I.tuple_inj hl g2]; exact e2⟩, ⟨z'', ?_, ⟨u1, u2, ?_⟩, ?_, ?_⟩, fun c hcm => ?_⟩
    · exact keepz _ _ D.n_TI_z (hk _ _ D.n_TI_z D.n_TI_TO D.n_TI_i1 D.n_TI_i2 hTI)
    · exact keepz _ _ D.n_TO_z TO'
    · exact h1'.at fun o q => keepz _ o D.n_i1_z q
    · exact h2'.at fun o q => keepz _ o D.n_i2_z q
    · have hlt : c < s.heap.objs.size := by
        have e' : c = z ∨ c = TI ∨ c = TO ∨ c = i1 ∨ c = i2 := by simpa using hcm
        rcases e' with q | q | q | q | q
        · rw [q]; exact hzl
        · rw [q]; exact Heap.lt_size hTI
        · rw [q]; exact Heap.lt_size hTO
        · rw [q]; obtain ⟨_, e1, _⟩ := h1; exact Heap.lt_size e1
        · rw [q]; obtain ⟨_, e2, _⟩ := h2; exact Heap.lt_size e2
      rw [upd_ne (Nat.ne_of_lt hlt)]
      exact (hf c hcm).1
  done := by
    intro X hP hw hK hc i pins s σ H E I hf st hg
    subst hP hw hK
    obtain ⟨hz, hTI, ⟨_, _, hTO⟩, h1, h2⟩ := st
    obtain ⟨ws, xs, g1, g2, hend⟩ := hg
    obtain ⟨t1, r1, p1, _⟩ := I.tuple g1
    obtain ⟨t2, r2, p2, _⟩ := I.tuple g2
    have l1 := r1.length
    have l2 := r2.length
    have he : t1.toArray[i]? = none ∨ t2.toArray[i]? = none := by
      rcases hend with q | q
      · exact .inl (by simp; omega)
      · exact .inr (by simp; omega)
    exact pyNext_zipT2_end (I.ok.hd hc) D hz hTI hTO h1 h2 p1 p2 he fun h' hk => ⟨rfl, I.turnedL (t' := s.toks) (ch := [z, TI, TO, i1, i2]) (fun c o hb q =>
      hk c o (fun q' => hb (by simp [q'])) (fun q' => hb (by simp [q'])) (fun q' => hb (by simp [q'])) (fun q' => hb (by simp [q'])) q) hf⟩
  self := fun A i s Q E st h => wpAny_pyIter_zip st.1 h
def iZipT2 (K : PySem.W.Frag) (ta : TA) : TI := fun σ H R => ta σ H fun vs H1 => ∃ a b ws xs, vs = [.ref a, .ref b] ∧ SqT K H1 a ws ∧ SqT K H1 b xs ∧ R (ItzT2 K a b) H1
theorem pi_zipT2 {X : Cx} {e e2 : Expr} {ta : TA} {p pos tpos : Pos} {elts : List Expr} {kk : Nat} (hg : Gl X "zip") (hm : X.mg "zip" = none) (ha : PA X [e, e2] ta)
    (hs : starEach [e, e2] X.env = (false, eval e X.env) :: starEach [e2] X.env := by rfl) (hpl : (backTo pos (starEach [e2] X.env)).any (·.1) = false := by rfl) :
    PI X (.Tuple elts kk tpos) (.Call (.Name "zip" p) [e, e2] [] pos) (iZipT2 X.K ta) := by
  refine ⟨fun pins s σ H R I h => ?_⟩
  refine Call_ (ld_blt I hg hm PyProof.Rows.boot_zip (PyProof.Rows.callWith_type1 (thn (ha.run pos pins s σ H _ I h) fun us s1 ⟨vs, H1, I1, r1, q1⟩ => ?_) hs hpl))
  obtain ⟨a, b, ws, xs, ex, g1, g2, q⟩ := q1
  subst ex
  cases r1 with
  | cons ra r1 =>
  cases r1 with
  | cons rb r1 =>
  cases r1
  cases ra
  cases rb
  have fresh5 : ∀ c, c ∈ [s1.heap.objs.size + 4, s1.heap.objs.size + 2, s1.heap.objs.size + 3, s1.heap.objs.size, s1.heap.objs.size + 1] → FpOk X pins H1 c := fun c hcm => by
    have e' : c = s1.heap.objs.size + 4 ∨ c = s1.heap.objs.size + 2 ∨ c = s1.heap.objs.size + 3 ∨ c = s1.heap.objs.size ∨ c = s1.heap.objs.size + 1 := by simpa using hcm
    have hle : s1.heap.objs.size ≤ c := by
      rcases e' with z | z | z | z | z
      · rw [z]; exact Nat.le_add_right _ _
      · rw [z]; exact Nat.le_add_right _ _
      · rw [z]; exact Nat.le_add_right _ _
      · rw [z]; exact Nat.le_refl _
      · rw [z]; exact Nat.le_add_right _ _
    exact I1.fpOk hle (I1.hok.fresh hle)
  obtain ⟨t1, r1, p1, _⟩ := I1.tuple g1
  obtain ⟨t2, r2, p2, _⟩ := I1.tuple g2
  obtain ⟨o1, ho1, _⟩ := id p1
  obtain ⟨o2, ho2, _⟩ := id p2
  refine call_zipT2 (show s1.heap.IsTuple a t1.toArray from p1) (show s1.heap.IsTuple b t2.toArray from p2) fun h' hz hTI hTO h1 h2 hsz hk => wpAny_pyIter_zip hz ?_
  have I2 : Inv X pins σ H1 { s1 with heap := h' } := I1.kept (t' := s1.toks) hk
  exact ⟨s1.heap.objs.size + 4, [s1.heap.objs.size + 4, s1.heap.objs.size + 2, s1.heap.objs.size + 3, s1.heap.objs.size, s1.heap.objs.size + 1], _, _, H1, rfl, I2, turn_zipT2 (zapT2_mk s1.heap.objs.size a b (Heap.lt_size ho1) (Heap.lt_size ho2)), ⟨hz, hTI, ⟨_, _, hTO⟩, h1, h2⟩, fresh5, q⟩
theorem walk_zipT2 {K : PySem.W.Frag} {a b : Addr} {ws xs : List V} : Walk (ItzT2 K a b) (min ws.length xs.length) (fun H => SqT K H a ws ∧ SqT K H b xs)
    (fun i H v H' => ∃ T p q, v = .ref T ∧ H T = none ∧ H' = upd H T (.tup [p, q]) ∧ ws[i]? = some p ∧ xs[i]? = some q) := by
  refine ⟨fun i H hi hH => ?_, fun H hH => ?_, fun i H v H' hi hH yy => ?_⟩
  · obtain ⟨g1, g2⟩ := hH
    exact ⟨ws, xs, _, _, g1, g2, List.getElem?_eq_getElem (by omega), List.getElem?_eq_getElem (by omega)⟩
  · obtain ⟨g1, g2⟩ := hH
    exact ⟨ws, xs, g1, g2, by omega⟩
  · obtain ⟨g1, g2⟩ := hH
    obtain ⟨T, p, q, h1, h2, h3, h4, h5⟩ := yy
    exact ⟨T, p, q, h1, h2, h3, h4 _ g1, h5 _ g2⟩
end RZ
namespace Dx
open PySem L2
def zipTT : List D → Res (List D)
  | [p, q] => match seqT p, seqT q with
    | some a, some b => .ok (pairs a b)
    | _, _ => .bad
  | _ => .bad
section
variable {X : Cx} {c : Cf} {G : List Ow} {e e2 : Expr} {pos : Pos} {fs : Rho → Res (List D)}
theorem di_zipTT {p tpos : Pos} {elts : List Expr} {kk : Nat} (hm : X.mg "zip" = none) (hg : Gl X "zip") (ha : PA X [e, e2] (tAs c G fs)) (hK : c.K = X.K := by rfl) (hs : starEach [e, e2] X.env = (false, eval e X.env) :: starEach [e2] X.env := by rfl) (hpl : (backTo pos (starEach [e2] X.env)).any (·.1) = false := by rfl) :
    PI X (.Tuple elts kk tpos) (.Call (.Name "zip" p) [e, e2] [] pos) (iD c G (dIts zipTT fs)) :=
  pi_imp (RZ.pi_zipT2 hg hm ha hs hpl) fun σ H R ⟨S0, H0, S, r, ok, p⟩ => rd_seq ok p fun ds vs S1 H1 w1 o1 m1 p1 => by
    unfold zipTT at p1
    split at p1
    · rename_i d1 d2
      cases m1 with | cons h1 m1 =>
      cases m1 with | cons h2 m1 =>
      cases m1
      split at p1
      · rename_i a b z1 z2
        obtain ⟨q1, x1, rfl, s1, r1⟩ := seqT_v h1 z1
        obtain ⟨q2, x2, rfl, s2, r2⟩ := seqT_v h2 z2
        rw [hK] at s1 s2
        have W := RZ.walk_zipT2 (K := X.K) (a := q1) (b := q2) (ws := x1) (xs := x2)
        rw [r1.length, r2.length, ← pairs_len] at W
        refine ⟨q1, q2, x1, x2, rfl, o1.ex.t s1, o1.ex.t s2, p1.go o1.ex _ (show Gives c _ _ (RZ.ItzT2 X.K q1 q2) _ from ⟨_, _, W, fun S'' H'' e1 e2 _ => ⟨(e1.trans e2).t s1, (e1.trans e2).t s2⟩, fun i S2 v H2 H3 hi e1 e2 yy => ?_⟩)⟩
        obtain ⟨T, p, q, rfl, hT, rfl, g1, g2⟩ := yy
        obtain ⟨b1, k1, t1⟩ := r1.getV g1
        obtain ⟨b2, k2, t2⟩ := r2.getV g2
        have en : Ex S2 (upd S2 T (.tup [p, q])) := Ex.new (e2.nn hT)
        exact ⟨upd S2 T (.tup [p, q]), .tup [b1, b2], Fwd.both e2 hT, pairs_get _ _ i _ _ k1 k2, .tup upd_same (.cons (t1.mono (e1.trans en)) (.cons (t2.mono (e1.trans en)) .nil))⟩
      · exact p1.elim
    · exact p1.elim
end
section
variable {Q : List D → Prop} {E : Str → List Str → List D → Prop}
theorem rs_zipTT {ds es : List D} (q : Q (pairs ds es)) : Rs (zipTT [.tup ds, .tup es]) Q E := q
end
end Dx
end S_DxBG
section S_DxBH
set_option Elab.async false
set_option linter.all false
set_option maxRecDepth 100000
set_option maxHeartbeats 2000000
namespace Dx
open PySem L2
end Dx
end S_DxBH
section S_DxBI
set_option Elab.async false
set_option linter.all false
set_option maxRecDepth 100000
set_option maxHeartbeats 2000000
namespace Dx
open PySem L2
section
variable {X : Cx} {c : Cf} {L G G' : List Ow}
def thruF (Fb : Rho → SR) : Rho → SR := fun r => match Fb r with
  | .er _ _ _ _ => .bad
  | x => x
theorem ds_thru {body : List Stmt} {h₀ : ExceptHandler} {hds : List ExceptHandler} {pos : Pos} {Fb : Rho → SR} (hb : PSs X.nox body (sD c.calm L G G' Fb)) : PS X (.Try body (h₀ :: hds) [] [] pos) (sD c L G G' (thruF Fb)) :=
  ps_imp (ps_try_thru0 hb) fun E σ H ⟨S0, H0, S, r, ok, p⟩ => by
    refine ⟨S0, H0, S, r, ok.cf rfl rfl, ?_⟩
    unfold thruF at p
    cases hF : Fb r with
    | nx r' => rw [hF] at p; exact fun σ' S' H' e => p σ' S' H' (e.cf rfl rfl)
    | rt d => rw [hF] at p; exact p
    | bk r' => rw [hF] at p; exact fun σ' S' H' e => p σ' S' H' (e.cf rfl rfl)
    | ct r' => rw [hF] at p; exact fun σ' S' H' e => p σ' S' H' (e.cf rfl rfl)
    | bad => rw [hF] at p; exact p.elim
    | er r' n ns vs => rw [hF] at p; exact p.elim
/-- name = [.. for x in xs], xs an own list -/
theorem ds_setLcO (i : Nat) {y : Str} {py : Pos} {elt tg iter : Expr} {ifs : List Expr} {scope : Scope} {own : List (Str × Nat)} {pos spos : Pos} {its : Rho → Res (List D)} {t : D → Rho → Res Rho} {tt : Rho → Res Bool} {fe : Rho → Res D} (hgk : Gok c G) (hG : i < G.length) (hc : X.calm = true) (hN : X.N.Nodup) (hy : X.N[i]? = some y) (hyl : X.env.scope.names.lookup y = some .local)
    (hsw : swapsWith (.ListComp elt [⟨tg, iter, ifs, 0⟩] scope pos) (some (.Name y py)) spos.line X.env = pure true) (hi : PI X tg iter (iDl c G its)) (ok : BlkOk X.N X.env.scope scope own)
    (hg : ∀ (s : Shared) (H : Hp) (C : Addr) (cl : List (Str × Addr)) (fp : List Addr), PG (X.blk s H scope (compEnvC scope cl C X.env) fp) tg (gD c.calm G G' (own.map (·.2)) t)) (ht : ∀ (s : Shared) (H : Hp) (C : Addr) (cl : List (Str × Addr)) (fp : List Addr), PTs (X.blk s H scope (compEnvC scope cl C X.env) fp) ifs (tT c.calm G' tt))
    (he : ∀ (s : Shared) (H : Hp) (C : Addr) (cl : List (Str × Addr)) (fp : List Addr), PE (X.blk s H scope (compEnvC scope cl C X.env) fp) elt (tV c.calm G' fe)) (hs : ∀ x, foldedSetIterable iter X.env x = pure x := by intro _; rfl) :
    PS X (.Assign [.Name y py] (.ListComp elt [⟨tg, iter, ifs, 0⟩] scope pos) spos) (sD c L G (G.set i .o) (setF i (dLc its t tt fe (own.map (·.2))))) :=
  ps_imp (ps_setLc hc hN hy hyl hsw hi ok hg ht he hs) fun E σ H ⟨S0, H0, S, r, ok, p⟩ => lc_rd σ H _ (st_seq hgk ok p fun d v S1 H1 w1 o1 m1 p1 => by
    obtain ⟨q, ho, rfl, n, ns, hp, h⟩ := m1
    exact p1 _ S1 H1 (ok.setO w1 i hG n ns hp h))
end
section
variable {Fb : Rho → SR} {r : Rho} {N B C : Rho → Prop} {R : D → Prop} {E : Rho → Str → List Str → List D → Prop}
theorem ss_thru (h : Ss (Fb r) N R B C fun _ _ _ _ => False) : Ss (thruF Fb r) N R B C E := by
  unfold thruF
  cases hF : Fb r with
  | nx r' => rw [hF] at h; exact h
  | rt d => rw [hF] at h; exact h
  | bk r' => rw [hF] at h; exact h
  | ct r' => rw [hF] at h; exact h
  | bad => rw [hF] at h; exact h.elim
  | er r' n ns vs => rw [hF] at h; exact h.elim
end
end Dx
end S_DxBI
section S_DxBJ
set_option Elab.async false
set_option linter.all false
set_option maxRecDepth 100000
set_option maxHeartbeats 2000000
namespace OT
open PySem PySem.SeqAt
/-- a bool as a number -/
def nbI (b : Bool) : Int := if b = true then 1 else 0
section
variable {A : Around} {s : Shared}
theorem gv_lt_bb (a b : Bool) : Gives (Builtin.«int.__lt__» ⟨[.bool a, .bool b], []⟩) (.val (Value.bool (decide (nbI a < nbI b)))) :=
  .of_wp fun M A E s Q h => by obtain ⟨hp, g, d, tk, os⟩ := s; cases a <;> cases b <;> (wp_walk; exact ⟨_, rfl, h⟩)
theorem rc_lt_bb (a b : Bool) : Ob.RcOp .Lt A s (.bool a) (.bool b) (decide (nbI a < nbI b)) := fun prog w E Q h =>
  richCompare_gives (op := .Lt) (T := "bool") rfl rfl F.slot_bool_lt F.entry_int_lt (F.args_int_lt_2 _ _) (gv_lt_bb a b) (fun x => nomatch x) h
theorem gv_le_bb (a b : Bool) : Gives (Builtin.«int.__le__» ⟨[.bool a, .bool b], []⟩) (.val (Value.bool (decide (nbI a ≤ nbI b)))) :=
  .of_wp fun M A E s Q h => by obtain ⟨hp, g, d, tk, os⟩ := s; cases a <;> cases b <;> (wp_walk; exact ⟨_, rfl, h⟩)
theorem rc_le_bb (a b : Bool) : Ob.RcOp .LtE A s (.bool a) (.bool b) (decide (nbI a ≤ nbI b)) := fun prog w E Q h =>
  richCompare_gives (op := .LtE) (T := "bool") rfl rfl F.slot_bool_le F.entry_int_le (F.args_int_le_2 _ _) (gv_le_bb a b) (fun x => nomatch x) h
theorem gv_gt_bb (a b : Bool) : Gives (Builtin.«int.__gt__» ⟨[.bool a, .bool b], []⟩) (.val (Value.bool (decide (nbI b < nbI a)))) :=
  .of_wp fun M A E s Q h => by obtain ⟨hp, g, d, tk, os⟩ := s; cases a <;> cases b <;> (wp_walk; exact ⟨_, rfl, h⟩)
theorem rc_gt_bb (a b : Bool) : Ob.RcOp .Gt A s (.bool a) (.bool b) (decide (nbI b < nbI a)) := fun prog w E Q h =>
  richCompare_gives (op := .Gt) (T := "bool") rfl rfl F.slot_bool_gt F.entry_int_gt (F.args_int_gt_2 _ _) (gv_gt_bb a b) (fun x => nomatch x) h
theorem gv_ge_bb (a b : Bool) : Gives (Builtin.«int.__ge__» ⟨[.bool a, .bool b], []⟩) (.val (Value.bool (decide (nbI b ≤ nbI a)))) :=
  .of_wp fun M A E s Q h => by obtain ⟨hp, g, d, tk, os⟩ := s; cases a <;> cases b <;> (wp_walk; exact ⟨_, rfl, h⟩)
theorem rc_ge_bb (a b : Bool) : Ob.RcOp .GtE A s (.bool a) (.bool b) (decide (nbI b ≤ nbI a)) := fun prog w E Q h =>
  richCompare_gives (op := .GtE) (T := "bool") rfl rfl F.slot_bool_ge F.entry_int_ge (F.args_int_ge_2 _ _) (gv_ge_bb a b) (fun x => nomatch x) h
end
end OT
namespace Dx
open PySem L2 OT
/-- a number, and whether it is a bool -/
inductive NB where
  | i (n : Int)
  | b (x : Bool)
def NB.num : NB → Int
  | .i n => n
  | .b x => nbI x
def NB.v : NB → V
  | .i n => .int n
  | .b x => .bl x
def NB.d : NB → D
  | .i n => .int n
  | .b x => .bl x
def NB.like : NB → NB → Bool
  | .i _, .i _ => true
  | .b _, .b _ => true
  | _, _ => false
def nbAt (l : List NB) (j : Nat) : Int := (l.getD j (.i 0)).num
def likes (l m : List NB) : Prop := l.length = m.length ∧ ∀ j (h1 : j < l.length) (h2 : j < m.length), NB.like l[j] m[j] = true
theorem nb_at {xs : List NB} {us : List Value} (r : Vals (xs.map NB.v) us) {j : Nat} (h : j < us.toArray.size) (hx : j < xs.length) : RelV (xs[j]).v (us.toArray[j]) := by
  have h' : j < us.length := by simpa using h
  obtain ⟨u, h1, h2⟩ := r.get (i := j) (x := (xs[j]).v) (by rw [List.getElem?_map, List.getElem?_eq_getElem hx]; rfl)
  rw [List.getElem?_eq_getElem h'] at h1
  cases h1
  simpa using h2
def lexLt (ns ms : List NB) : Bool := Ob.lexAt (fun j => decide (nbAt ns j = nbAt ms j)) (fun j => decide (nbAt ns j < nbAt ms j)) false 0 ns.length
def rOrdLt (K : PySem.W.Frag) : R2 := fun x y H Q => ∃ (a b : Addr) (ns ms : List NB), x = .ref a ∧ y = .ref b ∧ SqT K H a (ns.map NB.v) ∧ SqT K H b (ms.map NB.v) ∧ likes ns ms ∧ Q (.bl (lexLt ns ms)) H
theorem op_ordLt {X : Cx} (hu : X.A.units < cLine) : OpR X (compareOp .Lt) (rOrdLt X.K) := by
  intro pins s σ H x y v u Q I rx ry h
  obtain ⟨a, b, ns, ms, rfl, rfl, ha, hb, ⟨hl, hk⟩, q⟩ := h
  cases rx
  cases ry
  obtain ⟨its, r1, p1, _⟩ := I.tuple ha
  obtain ⟨its2, r2, p2, _⟩ := I.tuple hb
  have e1 : its.toArray.size = ns.length := by rw [List.size_toArray, ← r1.length, List.length_map]
  have e2 : its2.toArray.size = ms.length := by rw [List.size_toArray, ← r2.length, List.length_map]
  have R := Ob.RcOp.tuples_lt (A := X.A) (s := s) (e := fun j => decide (nbAt ns j = nbAt ms j)) (r := fun j => decide (nbAt ns j < nbAt ms j)) p1 p2 hu (fun j h1 h2 => by
    have n1 : j < ns.length := by omega
    have n2 : j < ms.length := by omega
    have g1 := nb_at r1 h1 n1
    have g2 := nb_at r2 h2 n2
    have k := hk j n1 n2
    have x1 : nbAt ns j = (ns[j]).num := by unfold nbAt; rw [List.getD_eq_getElem?_getD, List.getElem?_eq_getElem n1]; rfl
    have x2 : nbAt ms j = (ms[j]).num := by unfold nbAt; rw [List.getD_eq_getElem?_getD, List.getElem?_eq_getElem n2]; rfl
    rw [x1, x2]
    generalize ns[j] = y1 at g1 k ⊢
    generalize ms[j] = y2 at g2 k ⊢
    cases y1 with
    | i n => cases y2 with
      | i m =>
        obtain ⟨t, et⟩ := g1
        obtain ⟨t', et'⟩ := g2
        rw [et, et']
        have z : (n == m) = decide (n = m) := rfl
        show SeqAt.EqAt _ _ _ _ (decide (n = m))
        rw [← z]
        exact SeqAt.EqAt.int_int _ _ _ _
      | b _ => cases k
    | b x => cases y2 with
      | i _ => cases k
      | b y =>
        rw [show its.toArray[j] = Value.bool x from g1, show its2.toArray[j] = Value.bool y from g2]
        have z : (x == y) = decide (nbI x = nbI y) := by cases x <;> cases y <;> rfl
        show SeqAt.EqAt _ _ _ _ (decide (nbI x = nbI y))
        rw [← z]
        exact SeqAt.EqAt.bool_bool _ _) (fun j h1 h2 _ => by
    have n1 : j < ns.length := by omega
    have n2 : j < ms.length := by omega
    have g1 := nb_at r1 h1 n1
    have g2 := nb_at r2 h2 n2
    have k := hk j n1 n2
    have x1 : nbAt ns j = (ns[j]).num := by unfold nbAt; rw [List.getD_eq_getElem?_getD, List.getElem?_eq_getElem n1]; rfl
    have x2 : nbAt ms j = (ms[j]).num := by unfold nbAt; rw [List.getD_eq_getElem?_getD, List.getElem?_eq_getElem n2]; rfl
    rw [x1, x2]
    generalize ns[j] = y1 at g1 k ⊢
    generalize ms[j] = y2 at g2 k ⊢
    cases y1 with
    | i n => cases y2 with
      | i m =>
        obtain ⟨t, et⟩ := g1
        obtain ⟨t', et'⟩ := g2
        rw [et, et']
        exact Ob.RcOp.lt_int _ _ _ _
      | b _ => cases k
    | b x => cases y2 with
      | i _ => cases k
      | b y =>
        rw [show its.toArray[j] = Value.bool x from g1, show its2.toArray[j] = Value.bool y from g2]
        exact rc_lt_bb _ _)
  rw [e1, e2, ← hl, Nat.min_self, show (decide (ns.length < ns.length)) = false by simp] at R
  have z : wpAny (model X.prog X.w) X.A (compareOp .Lt (.ref a) (.ref b)) (EP X pins σ Q) X.xe s := R X.prog X.w X.xe (EP X pins σ Q) ⟨.bl _, H, I, rfl, q⟩
  exact z
def lexLtE (ns ms : List NB) : Bool := Ob.lexAt (fun j => decide (nbAt ns j = nbAt ms j)) (fun j => decide (nbAt ns j ≤ nbAt ms j)) true 0 ns.length
def rOrdLtE (K : PySem.W.Frag) : R2 := fun x y H Q => ∃ (a b : Addr) (ns ms : List NB), x = .ref a ∧ y = .ref b ∧ SqT K H a (ns.map NB.v) ∧ SqT K H b (ms.map NB.v) ∧ likes ns ms ∧ Q (.bl (lexLtE ns ms)) H
theorem op_ordLtE {X : Cx} (hu : X.A.units < cLine) : OpR X (compareOp .LtE) (rOrdLtE X.K) := by
  intro pins s σ H x y v u Q I rx ry h
  obtain ⟨a, b, ns, ms, rfl, rfl, ha, hb, ⟨hl, hk⟩, q⟩ := h
  cases rx
  cases ry
  obtain ⟨its, r1, p1, _⟩ := I.tuple ha
  obtain ⟨its2, r2, p2, _⟩ := I.tuple hb
  have e1 : its.toArray.size = ns.length := by rw [List.size_toArray, ← r1.length, List.length_map]
  have e2 : its2.toArray.size = ms.length := by rw [List.size_toArray, ← r2.length, List.length_map]
  have R := Ob.RcOp.tuples_le (A := X.A) (s := s) (e := fun j => decide (nbAt ns j = nbAt ms j)) (r := fun j => decide (nbAt ns j ≤ nbAt ms j)) p1 p2 hu (fun j h1 h2 => by
    have n1 : j < ns.length := by omega
    have n2 : j < ms.length := by omega
    have g1 := nb_at r1 h1 n1
    have g2 := nb_at r2 h2 n2
    have k := hk j n1 n2
    have x1 : nbAt ns j = (ns[j]).num := by unfold nbAt; rw [List.getD_eq_getElem?_getD, List.getElem?_eq_getElem n1]; rfl
    have x2 : nbAt ms j = (ms[j]).num := by unfold nbAt; rw [List.getD_eq_getElem?_getD, List.getElem?_eq_getElem n2]; rfl
    rw [x1, x2]
    generalize ns[j] = y1 at g1 k ⊢
    generalize ms[j] = y2 at g2 k ⊢
    cases y1 with
    | i n => cases y2 with
      | i m =>
        obtain ⟨t, et⟩ := g1
        obtain ⟨t', et'⟩ := g2
        rw [et, et']
        have z : (n == m) = decide (n = m) := rfl
        show SeqAt.EqAt _ _ _ _ (decide (n = m))
        rw [← z]
        exact SeqAt.EqAt.int_int _ _ _ _
      | b _ => cases k
    | b x => cases y2 with
      | i _ => cases k
      | b y =>
        rw [show its.toArray[j] = Value.bool x from g1, show its2.toArray[j] = Value.bool y from g2]
        have z : (x == y) = decide (nbI x = nbI y) := by cases x <;> cases y <;> rfl
        show SeqAt.EqAt _ _ _ _ (decide (nbI x = nbI y))
        rw [← z]
        exact SeqAt.EqAt.bool_bool _ _) (fun j h1 h2 _ => by
    have n1 : j < ns.length := by omega
    have n2 : j < ms.length := by omega
    have g1 := nb_at r1 h1 n1
    have g2 := nb_at r2 h2 n2
    have k := hk j n1 n2
    have x1 : nbAt ns j = (ns[j]).num := by unfold nbAt; rw [List.getD_eq_getElem?_getD, List.getElem?_eq_getElem n1]; rfl
    have x2 : nbAt ms j = (ms[j]).num := by unfold nbAt; rw [List.getD_eq_getElem?_getD, List.getElem?_eq_getElem n2]; rfl
    rw [x1, x2]
    generalize ns[j] = y1 at g1 k ⊢
    generalize ms[j] = y2 at g2 k ⊢
    cases y1 with
    | i n => cases y2 with
      | i m =>
        obtain ⟨t, et⟩ := g1
        obtain ⟨t', et'⟩ := g2
        rw [et, et']
        exact Ob.RcOp.le_int _ _ _ _
      | b _ => cases k
    | b x => cases y2 with
      | i _ => cases k
      | b y =>
        rw [show its.toArray[j] = Value.bool x from g1, show its2.toArray[j] = Value.bool y from g2]
        exact rc_le_bb _ _)
  rw [e1, e2, ← hl, Nat.min_self, show (decide (ns.length ≤ ns.length)) = true by simp] at R
  have z : wpAny (model X.prog X.w) X.A (compareOp .LtE (.ref a) (.ref b)) (EP X pins σ Q) X.xe s := R X.prog X.w X.xe (EP X pins σ Q) ⟨.bl _, H, I, rfl, q⟩
  exact z
def lexGt (ns ms : List NB) : Bool := Ob.lexAt (fun j => decide (nbAt ns j = nbAt ms j)) (fun j => decide (nbAt ms j < nbAt ns j)) false 0 ns.length
def rOrdGt (K : PySem.W.Frag) : R2 := fun x y H Q => ∃ (a b : Addr) (ns ms : List NB), x = .ref a ∧ y = .ref b ∧ SqT K H a (ns.map NB.v) ∧ SqT K H b (ms.map NB.v) ∧ likes ns ms ∧ Q (.bl (lexGt ns ms)) H
theorem op_ordGt {X : Cx} (hu : X.A.units < cLine) : OpR X (compareOp .Gt) (rOrdGt X.K) := by
  intro pins s σ H x y v u Q I rx ry h
  obtain ⟨a, b, ns, ms, rfl, rfl, ha, hb, ⟨hl, hk⟩, q⟩ := h
  cases rx
  cases ry
  obtain ⟨its, r1, p1, _⟩ := I.tuple ha
  obtain ⟨its2, r2, p2, _⟩ := I.tuple hb
  have e1 : its.toArray.size = ns.length := by rw [List.size_toArray, ← r1.length, List.length_map]
  have e2 : its2.toArray.size = ms.length := by rw [List.size_toArray, ← r2.length, List.length_map]
  have R := Ob.RcOp.tuples_gt (A := X.A) (s := s) (e := fun j => decide (nbAt ns j = nbAt ms j)) (r := fun j => decide (nbAt ms j < nbAt ns j)) p1 p2 hu (fun j h1 h2 => by
    have n1 : j < ns.length := by omega
    have n2 : j < ms.length := by omega
    have g1 := nb_at r1 h1 n1
    have g2 := nb_at r2 h2 n2
    have k := hk j n1 n2
    have x1 : nbAt ns j = (ns[j]).num := by unfold nbAt; rw [List.getD_eq_getElem?_getD, List.getElem?_eq_getElem n1]; rfl
    have x2 : nbAt ms j = (ms[j]).num := by unfold nbAt; rw [List.getD_eq_getElem?_getD, List.getElem?_eq_getElem n2]; rfl
    rw [x1, x2]
    generalize ns[j] = y1 at g1 k ⊢
    generalize ms[j] = y2 at g2 k ⊢
    cases y1 with
    | i n => cases y2 with
      | i m =>
        obtain ⟨t, et⟩ := g1
        obtain ⟨t', et'⟩ := g2
        rw [et, et']
        have z : (n == m) = decide (n = m) := rfl
        show SeqAt.EqAt _ _ _ _ (decide (n = m))
        rw [← z]
        exact SeqAt.EqAt.int_int _ _ _ _
      | b _ => cases k
    | b x => cases y2 with
      | i _ => cases k
      | b y =>
        rw [show its.toArray[j] = Value.bool x from g1, show its2.toArray[j] = Value.bool y from g2]
        have z : (x == y) = decide (nbI x = nbI y) := by cases x <;> cases y <;> rfl
        show SeqAt.EqAt _ _ _ _ (decide (nbI x = nbI y))
        rw [← z]
        exact SeqAt.EqAt.bool_bool _ _) (fun j h1 h2 _ => by
    have n1 : j < ns.length := by omega
    have n2 : j < ms.length := by omega
    have g1 := nb_at r1 h1 n1
    have g2 := nb_at r2 h2 n2
    have k := hk j n1 n2
    have x1 : nbAt ns j = (ns[j]).num := by unfold nbAt; rw [List.getD_eq_getElem?_getD, List.getElem?_eq_getElem n1]; rfl
    have x2 : nbAt ms j = (ms[j]).num := by unfold nbAt; rw [List.getD_eq_getElem?_getD, List.getElem?_eq_getElem n2]; rfl
    rw [x1, x2]
    generalize ns[j] = y1 at g1 k ⊢
    generalize ms[j] = y2 at g2 k ⊢
    cases y1 with
    | i n => cases y2 with
      | i m =>
        obtain ⟨t, et⟩ := g1
        obtain ⟨t', et'⟩ := g2
        rw [et, et']
        exact Ob.RcOp.gt_int _ _ _ _
      | b _ => cases k
    | b x => cases y2 with
      | i _ => cases k
      | b y =>
        rw [show its.toArray[j] = Value.bool x from g1, show its2.toArray[j] = Value.bool y from g2]
        exact rc_gt_bb _ _)
  rw [e1, e2, ← hl, Nat.min_self, show (decide (ns.length > ns.length)) = false by simp] at R
  have z : wpAny (model X.prog X.w) X.A (compareOp .Gt (.ref a) (.ref b)) (EP X pins σ Q) X.xe s := R X.prog X.w X.xe (EP X pins σ Q) ⟨.bl _, H, I, rfl, q⟩
  exact z
def lexGtE (ns ms : List NB) : Bool := Ob.lexAt (fun j => decide (nbAt ns j = nbAt ms j)) (fun j => decide (nbAt ms j ≤ nbAt ns j)) true 0 ns.length
def rOrdGtE (K : PySem.W.Frag) : R2 := fun x y H Q => ∃ (a b : Addr) (ns ms : List NB), x = .ref a ∧ y = .ref b ∧ SqT K H a (ns.map NB.v) ∧ SqT K H b (ms.map NB.v) ∧ likes ns ms ∧ Q (.bl (lexGtE ns ms)) H
theorem op_ordGtE {X : Cx} (hu : X.A.units < cLine) : OpR X (compareOp .GtE) (rOrdGtE X.K) := by
  intro pins s σ H x y v u Q I rx ry h
  obtain ⟨a, b, ns, ms, rfl, rfl, ha, hb, ⟨hl, hk⟩, q⟩ := h
  cases rx
  cases ry
  obtain ⟨its, r1, p1, _⟩ := I.tuple ha
  obtain ⟨its2, r2, p2, _⟩ := I.tuple hb
  have e1 : its.toArray.size = ns.length := by rw [List.size_toArray, ← r1.length, List.length_map]
  have e2 : its2.toArray.size = ms.length := by rw [List.size_toArray, ← r2.length, List.length_map]
  have R := Ob.RcOp.tuples_ge (A := X.A) (s := s) (e := fun j => decide (nbAt ns j = nbAt ms j)) (r := fun j => decide (nbAt ms j ≤ nbAt ns j)) p1 p2 hu (fun j h1 h2 => by
    have n1 : j < ns.length := by omega
    have n2 : j < ms.length := by omega
    have g1 := nb_at r1 h1 n1
    have g2 := nb_at r2 h2 n2
    have k := hk j n1 n2
    have x1 : nbAt ns j = (ns[j]).num := by unfold nbAt; rw [List.getD_eq_getElem?_getD, List.getElem?_eq_getElem n1]; rfl
    have x2 : nbAt ms j = (ms[j]).num := by unfold nbAt; rw [List.getD_eq_getElem?_getD, List.getElem?_eq_getElem n2]; rfl
    rw [x1, x2]
    generalize ns[j] = y1 at g1 k ⊢
    generalize ms[j] = y2 at g2 k ⊢
    cases y1 with
    | i n => cases y2 with
      | i m =>
        obtain ⟨t, et⟩ := g1
        obtain ⟨t', et'⟩ := g2
        rw [et, et']
        have z : (n == m) = decide (n = m) := rfl
        show SeqAt.EqAt _ _ _ _ (decide (n = m))
        rw [← z]
        exact SeqAt.EqAt.int_int _ _ _ _
      | b _ => cases k
    | b x => cases y2 with
      | i _ => cases k
      | b y =>
        rw [show its.toArray[j] = Value.bool x from g1, show its2.toArray[j] = Value.bool y from g2]
        have z : (x == y) = decide (nbI x = nbI y) := by cases x <;> cases y <;> rfl
        show SeqAt.EqAt _ _ _ _ (decide (nbI x = nbI y))
        rw [← z]
        exact SeqAt.EqAt.bool_bool _ _) (fun j h1 h2 _ => by
    have n1 : j < ns.length := by omega
    have n2 : j < ms.length := by omega
    have g1 := nb_at r1 h1 n1
    have g2 := nb_at r2 h2 n2
    have k := hk j n1 n2
    have x1 : nbAt ns j = (ns[j]).num := by unfold nbAt; rw [List.getD_eq_getElem?_getD, List.getElem?_eq_getElem n1]; rfl
    have x2 : nbAt ms j = (ms[j]).num := by unfold nbAt; rw [List.getD_eq_getElem?_getD, List.getElem?_eq_getElem n2]; rfl
    rw [x1, x2]
    generalize ns[j] = y1 at g1 k ⊢
    generalize ms[j] = y2 at g2 k ⊢
    cases y1 with
    | i n => cases y2 with
      | i m =>
        obtain ⟨t, et⟩ := g1
        obtain ⟨t', et'⟩ := g2
        rw [et, et']
        exact Ob.RcOp.ge_int _ _ _ _
      | b _ => cases k
    | b x => cases y2 with
      | i _ => cases k
      | b y =>
        rw [show its.toArray[j] = Value.bool x from g1, show its2.toArray[j] = Value.bool y from g2]
        exact rc_ge_bb _ _)
  rw [e1, e2, ← hl, Nat.min_self, show (decide (ns.length ≥ ns.length)) = true by simp] at R
  have z : wpAny (model X.prog X.w) X.A (compareOp .GtE (.ref a) (.ref b)) (EP X pins σ Q) X.xe s := R X.prog X.w X.xe (EP X pins σ Q) ⟨.bl _, H, I, rfl, q⟩
  exact z
def toNB : D → Option NB
  | .int n => some (.i n)
  | .bl x => some (.b x)
  | _ => none
def nbL : List D → Option (List NB)
  | [] => some []
  | d :: ds => match toNB d, nbL ds with
    | some x, some xs => some (x :: xs)
    | _, _ => none
theorem nbL_rp {K : PySem.W.Frag} {cm : CM} {S : Hp} : ∀ {ds : List D} {vs : List V} {ns : List NB}, RpA K cm S vs ds → nbL ds = some ns → vs = ns.map NB.v
  | [], _, _, h, q => by cases h; cases q; rfl
  | d :: ds, _, ns, h, q => by
    cases h with | cons hd hr =>
    unfold nbL at q
    cases hx : toNB d with
    | none => rw [hx] at q; simp at q
    | some x =>
      cases hy : nbL ds with
      | none => rw [hx, hy] at q; simp at q
      | some xs =>
        rw [hx, hy] at q
        cases q
        rw [nbL_rp hr hy]
        cases d with
        | int n => cases hx; cases hd; rfl
        | bl b => cases hx; cases hd; rfl
        | _ => cases hx
section
variable {X : Cx} {c : Cf}
noncomputable def ordTD (lx : List NB → List NB → Bool) : D → D → Res D
  | .tup xs, .tup ys => match nbL xs, nbL ys with
    | some ns, some ms => guard (likes ns ms) (.ok (.bl (lx ns ms)))
    | _, _ => .bad
  | _, _ => .bad
theorem os_ordLt : OpS c (mV c) (rOrdLt c.K) (ordTD lexLt) := by
  intro σ S H x y d e Q ex hx hy p
  unfold ordTD at p
  split at p
  · rename_i xs ys
    split at p
    · rename_i ns ms h1 h2
      obtain ⟨q1, us1, rfl, s1, r1, _⟩ := hx.tup ex
      obtain ⟨q2, us2, rfl, s2, r2, _⟩ := hy.tup ex
      obtain ⟨hl, p⟩ := p.gd
      have e1 := nbL_rp r1 h1
      have e2 := nbL_rp r2 h2
      subst e1 e2
      exact ⟨_, _, ns, ms, rfl, rfl, s1, s2, hl, p.here ex (.bl _)⟩
    · exact p.elim
  · exact p.elim
theorem os_ordLtE : OpS c (mV c) (rOrdLtE c.K) (ordTD lexLtE) := by
  intro σ S H x y d e Q ex hx hy p
  unfold ordTD at p
  split at p
  · rename_i xs ys
    split at p
    · rename_i ns ms h1 h2
      obtain ⟨q1, us1, rfl, s1, r1, _⟩ := hx.tup ex
      obtain ⟨q2, us2, rfl, s2, r2, _⟩ := hy.tup ex
      obtain ⟨hl, p⟩ := p.gd
      have e1 := nbL_rp r1 h1
      have e2 := nbL_rp r2 h2
      subst e1 e2
      exact ⟨_, _, ns, ms, rfl, rfl, s1, s2, hl, p.here ex (.bl _)⟩
    · exact p.elim
  · exact p.elim
theorem os_ordGt : OpS c (mV c) (rOrdGt c.K) (ordTD lexGt) := by
  intro σ S H x y d e Q ex hx hy p
  unfold ordTD at p
  split at p
  · rename_i xs ys
    split at p
    · rename_i ns ms h1 h2
      obtain ⟨q1, us1, rfl, s1, r1, _⟩ := hx.tup ex
      obtain ⟨q2, us2, rfl, s2, r2, _⟩ := hy.tup ex
      obtain ⟨hl, p⟩ := p.gd
      have e1 := nbL_rp r1 h1
      have e2 := nbL_rp r2 h2
      subst e1 e2
      exact ⟨_, _, ns, ms, rfl, rfl, s1, s2, hl, p.here ex (.bl _)⟩
    · exact p.elim
  · exact p.elim
theorem os_ordGtE : OpS c (mV c) (rOrdGtE c.K) (ordTD lexGtE) := by
  intro σ S H x y d e Q ex hx hy p
  unfold ordTD at p
  split at p
  · rename_i xs ys
    split at p
    · rename_i ns ms h1 h2
      obtain ⟨q1, us1, rfl, s1, r1, _⟩ := hx.tup ex
      obtain ⟨q2, us2, rfl, s2, r2, _⟩ := hy.tup ex
      obtain ⟨hl, p⟩ := p.gd
      have e1 := nbL_rp r1 h1
      have e2 := nbL_rp r2 h2
      subst e1 e2
      exact ⟨_, _, ns, ms, rfl, rfl, s1, s2, hl, p.here ex (.bl _)⟩
    · exact p.elim
  · exact p.elim
theorem rs_ordT {lx : List NB → List NB → Bool} {ns ms : List NB} {Q : D → Prop} {E : Str → List Str → List D → Prop} (h : likes ns ms) (q : Q (.bl (lx ns ms))) : Rs (ordTD lx (.tup (ns.map NB.d)) (.tup (ms.map NB.d))) Q E := by
  have e : ∀ l : List NB, nbL (l.map NB.d) = some l := by
    intro l
    induction l with
    | nil => rfl
    | cons x l ih =>
      rw [List.map_cons]
      unfold nbL
      rw [ih]
      cases x <;> rfl
  unfold ordTD
  dsimp only
  rw [e ns, e ms]
  exact rs_guard h q
end
end Dx
end S_DxBJ
section S_DxBK
set_option Elab.async false
set_option linter.all false
set_option maxRecDepth 100000
set_option maxHeartbeats 2000000
namespace L2
open PySem PySem.Spec PyProof.Rows
/-- the statement ends in «return NotImplemented» -/
def NiSt (X : Cx) (st : Stmt) (t : St → Hp → (St → Hp → Prop) → Prop) : Prop := ∀ (pins : List (Addr × Obj)) (s : Shared) (σ : St) (H : Hp) (N : St → Hp → Prop), Inv X pins σ H s → t σ H N →
  wpAny (model X.prog X.w) X.A (exec st X.env) (fun fl s' => fl = .ret .notImplemented ∧ ∃ σ' H', Inv X pins σ' H' s' ∧ N σ' H') X.xe s
theorem ni_if {X : Cx} {c : Expr} {b : List Stmt} {p p2 p3 : Pos} {tc : TT} (hc : PT X c tc) (hg : Gl X "NotImplemented") (hm : X.mg "NotImplemented" = none) (hv : bootBuiltins "NotImplemented" = some .notImplemented) :
    NiSt X (.If c [.Return (some (.Name "NotImplemented" p)) p2] b p3) (fun σ H N => tc σ H fun d H1 => d = true ∧ N σ H1) := by
  intro pins s σ H N I h
  refine wpAny_If (thn (hc.run pins s σ H _ I h) fun d s1 ⟨H1, I1, q1⟩ => ?_)
  obtain ⟨rfl, q⟩ := q1
  refine wpAny_execs_cons (wpAny_Return_some (ld_blt I1 hg hm hv ?_))
  exact ⟨rfl, σ, H1, I1, q⟩
theorem ni_of {CX : CXT} {P : Program} {w : World} {K : PySem.W.Frag} {mg : Str → Option Value} {base : Heap} {k : Nat} {f : Addr} {name qual : Str} {params : Arguments} {st : Stmt} {rest : List Stmt} {scope : Scope} {dV kV doc pm cdv ct oc : Value} {an od : Option Addr}
    {osl : Array (Option Value)} {N ps : List Str} {t : St → Hp → (St → Hp → Prop) → Prop} {E : XK} (lk : K.lookup f = some ⟨oc, od, .func (PySem.W.fnOf name qual params (st :: rest) scope dV kV doc pm an cdv ct), osl⟩) (hcd : PySem.W.codeIn K cdv qual = true) (S : FnScope N ps scope)
    {A : Around} {outer : List Env} {s : Shared} {H : Hp} {args : Args} {us : List Value} {vs : List V} {Q : Hp → Prop} (hr : Room (k + 1) A) (e0 : Env0 P w K mg base A outer s H) (hb : BindsTo s (PySem.W.fnOf name qual params (st :: rest) scope dV kV doc pm an cdv ct) args (ps.zip us)) (r : Vals vs us) (hl : vs.length = ps.length)
    (hst : Room k (A.deeper (envOfC qual scope s.heap.objs.size f cdv)) → NiSt (cxOf CX P w K mg base N qual scope f cdv A outer s H E) st t) (hq : t (start N vs) H fun _ H' => Q H') :
    codeAny (model P w) A (.call (.ref f) args) (fun r s' => match r with
      | .ok (.ret u) => u = .notImplemented ∧ CE outer P w H s (fun _ H' => Q H') .none s'
      | .ok _ => False
      | .error e => CX outer H s E e s') s := by
  have KX : K.In s.heap := e0.mod.kin.keeps fun b o e => (e0.bs b o e).1
  have lim : s.heap.NoLimit := e0.mod.nolimit.keeps fun b o e => (e0.bs b o e).1
  have hkind : ∀ y ∈ ps.zip us, scope.names.lookup y.1 = some .local ∨ (scope.names.lookup y.1 = some .cell ∧ ((cellsFrom (s.heap.objs.size + 1) scope.names []).lookup y.1).isSome = true) := fun ⟨n, v⟩ hy => by
    rcases S.par n (List.of_mem_zip hy).1 with q | q
    · exact .inl q
    · exact .inr ⟨q, PySem.W.cellsFrom_some _ _ _ (.inl q)⟩
  refine codeAny_call_function hr.depth (KX _ _ lk) rfl S.co S.gen rfl (PySem.W.codeRec_of KX hcd) (hb _ _ _ _ ?_)
  refine wpAny_newFunctionEnv_cells S.kind hkind fun env he s1 x => ?_
  subst he
  refine ⟨lim.keeps x.toInCall.keep, codeAny_func ?_⟩
  have I : Inv (cxOf CX P w K mg base N qual scope f cdv A outer s H E) [] (start N vs) H s1 := inv_start S hr.hd e0 hl r x
  refine wpAny_mono (wpAny_execs_cons (wpAny_mono (hst (hr.deeper _) [] s1 (start N vs) H _ I hq) (fun fl s' hs => ?_) fun e s' hs => hs)) (fun fl s' hs => hs) fun e s' hs => hs
  obtain ⟨rfl, σ', H', J, q⟩ := hs
  exact ⟨rfl, V.non, H', J.os, J.bare, J.base, J.hok, rfl, q⟩
end L2
end S_DxBK
section S_DxBL
set_option Elab.async false
set_option linter.all false
set_option maxRecDepth 100000
set_option maxHeartbeats 2000000
namespace Dx
open PySem L2 ItX
open PyProof.Rows hiding St
section
variable {prog : Program} {w : World} {A : Around} {E : Value → Shared → Prop} {s : Shared} {K : PySem.W.Frag} {x l C L f : Addr} {h₀ : Heap} {m : Str → Option Value} {ox : Obj} {od : Option Obj} {b tb : Value}
theorem tup_eq_dec {Q : Fin → Shared → Prop} (hI : PySem.W.Looks (model prog w) s.heap (isInstance b (.type "tuple")) false) (hq : Q (.done (.ret .notImplemented)) s) : wpAny (model prog w) A (Builtin.«tuple.__eq__» ⟨[.ref l, b], []⟩) Q E s := by
  unfold Builtin.«tuple.__eq__»
  repeat (first | with_reducible (refine wpAny_bind (hI.here ?_)) | wp_step)
  exact hq
theorem tup_ne_dec {Q : Fin → Shared → Prop} (hI : PySem.W.Looks (model prog w) s.heap (isInstance b (.type "tuple")) false) (hq : Q (.done (.ret .notImplemented)) s) : wpAny (model prog w) A (Builtin.«tuple.__ne__» ⟨[.ref l, b], []⟩) Q E s := by
  unfold Builtin.«tuple.__ne__»
  repeat (first | with_reducible (refine wpAny_bind (hI.here ?_)) | wp_step)
  exact hq
theorem ni_eq_K {Q : Value → Shared → Prop} (hu : A.units < cLine) (FR : Fr h₀ L s.heap m) (X₀ : K.In h₀) (I : PySem.W.InstAt s.heap x ox C od) (ht : PySem.W.Looks (model prog w) s.heap (typeOf (.ref l)) (.type "tuple")) (hn : PySem.W.notFirst K C (.type "tuple") = true)
    (hs : PySem.W.findIn K (.ref C) "__eq__" = some (some (.ref f))) (hf : PySem.W.isFn K (.ref f) = true) (hm : PySem.W.mroIn K C (.type "tuple") = some false)
    (h : wpAny (model prog w) A (call (.ref f) [.ref x, .ref l]) (fun v s' => v = .notImplemented ∧ K.In s'.heap ∧ (∃ ox' od', PySem.W.InstAt s'.heap x ox' C od') ∧ (∃ o', s'.heap.get? l = some o' ∧ o'.cls = .type "tuple") ∧ Q (.bool false) s') E s) :
    wpAny (model prog w) A (richCompare .Eq (.ref x) (.ref l)) Q E s := by
  have X := X₀.keeps FR.keep
  have one : wpAny (model prog w) A (tryCompare (.ref x) (cmpInfo .Eq).2.1 (.ref l)) (fun r s' => r = none ∧ K.In s'.heap ∧ (∃ ox' od', PySem.W.InstAt s'.heap x ox' C od') ∧ (∃ o', s'.heap.get? l = some o' ∧ o'.cls = .type "tuple") ∧ Q (.bool false) s') E s := by
    unfold tryCompare
    refine wpAny_bind (PySem.W.ifBound_K X I hs hf (wpAny_mono h (fun v s' hv => ?_) fun _ _ e => e))
    obtain ⟨rfl, hv⟩ := hv
    exact wpAny_pure ⟨rfl, hv⟩
  have two : ∀ s', K.In s'.heap → (∃ ox' od', PySem.W.InstAt s'.heap x ox' C od') → (∃ o', s'.heap.get? l = some o' ∧ o'.cls = .type "tuple") → Q (.bool false) s' → wpAny (model prog w) A (tryCompare (.ref l) (cmpInfo .Eq).2.2 (.ref x)) (fun r s2 => r = none ∧ s2 = s') E s' := fun s' X' ⟨ox', od', I'⟩ ht' _ => by
    refine wpAny_tryCompare_declines (T := "tuple") (id := "tuple.__eq__") ht' F.slot_tuple_eq_refl (GQ.call_here (B := Builtin.«tuple.__eq__») F.slot_tuple_eq_refl ht' F.entry_tuple_eq (F.args_tuple_eq_2 _ _) ?_)
    exact tup_eq_dec (I'.type.andThen (PySem.W.looks_mroIn X' hm)) ⟨rfl, rfl, rfl⟩
  unfold richCompare
  simp only [oneThing_ref]
  refine wpAny_holding (wpAny_bind (wpAny_cRoomFor hu ?_))
  refine wpAny_bind (I.type.here (wpAny_bind (ht.here ?_)))
  have fin : ∀ s', (∃ ox' od', PySem.W.InstAt s'.heap x ox' C od') → (∃ o', s'.heap.get? l = some o' ∧ o'.cls = .type "tuple") → Q (.bool false) s' → wpAny (model prog w) A (isSame (.ref x) (.ref l)) (fun b s2 => Q (.bool b) s2) E s' := fun s' ⟨ox', od', I'⟩ ⟨o', h1, h2⟩ hq => by
    have hne : (x == l) = false := by
      refine beq_eq_false_iff_ne.mpr fun e => ?_
      subst e
      have := I'.at_.symm.trans h1
      cases this
      rw [I'.cls] at h2
      cases h2
    unfold isSame
    dsimp only
    rw [hne]
    simp only [Bool.false_eq_true, if_false]
    refine wpAny_bind (wpAny_load I'.at_ (wpAny_bind (wpAny_load h1 ?_)))
    rw [I'.cls, h2]
    exact wpAny_pure hq
  split
  · rename_i q
    have e : PySem.W.subIn K (.type "tuple") (.ref C) = some false := by
      rcases Bool.or_eq_true_iff.mp hn with e | e
      · rw [beq_iff_eq.mp e] at q; simp at q
      · exact beq_iff_eq.mp e
    refine wpAny_bind ((PySem.W.looks_subIn X e).here ?_)
    simp only [Bool.false_eq_true, if_false]
    refine wpAny_bind (wpAny_mono one (fun r s' z => ?_) fun _ _ e => e)
    obtain ⟨rfl, X', hi, ht', hq⟩ := z
    simp only [Bool.not_false, if_true]
    refine wpAny_bind (wpAny_mono (two s' X' hi ht' hq) (fun r s2 z => ?_) fun _ _ e => e)
    obtain ⟨rfl, rfl⟩ := z
    dsimp only
    refine wpAny_bind (wpAny_rule ?_)
    exact wpAny_bind (wpAny_mono (fin _ hi ht' hq) (fun b s3 z => wpAny_pure z) fun _ _ e => e)
  · rename_i q
    exact absurd (show (Value.ref C != Value.type "tuple") = true from rfl) q
theorem ni_ne_K {Q : Value → Shared → Prop} (hu : A.units < cLine) (FR : Fr h₀ L s.heap m) (X₀ : K.In h₀) (I : PySem.W.InstAt s.heap x ox C od) (ht : PySem.W.Looks (model prog w) s.heap (typeOf (.ref l)) (.type "tuple")) (hn : PySem.W.notFirst K C (.type "tuple") = true)
    (hs : PySem.W.findIn K (.ref C) "__ne__" = some (some (.ref f))) (hf : PySem.W.isFn K (.ref f) = true) (hm : PySem.W.mroIn K C (.type "tuple") = some false)
    (h : wpAny (model prog w) A (call (.ref f) [.ref x, .ref l]) (fun v s' => v = .notImplemented ∧ K.In s'.heap ∧ (∃ ox' od', PySem.W.InstAt s'.heap x ox' C od') ∧ (∃ o', s'.heap.get? l = some o' ∧ o'.cls = .type "tuple") ∧ Q (.bool true) s') E s) :
    wpAny (model prog w) A (richCompare .NotEq (.ref x) (.ref l)) Q E s := by
  have X := X₀.keeps FR.keep
  have one : wpAny (model prog w) A (tryCompare (.ref x) (cmpInfo .NotEq).2.1 (.ref l)) (fun r s' => r = none ∧ K.In s'.heap ∧ (∃ ox' od', PySem.W.InstAt s'.heap x ox' C od') ∧ (∃ o', s'.heap.get? l = some o' ∧ o'.cls = .type "tuple") ∧ Q (.bool true) s') E s := by
    unfold tryCompare
    refine wpAny_bind (PySem.W.ifBound_K X I hs hf (wpAny_mono h (fun v s' hv => ?_) fun _ _ e => e))
    obtain ⟨rfl, hv⟩ := hv
    exact wpAny_pure ⟨rfl, hv⟩
  have two : ∀ s', K.In s'.heap → (∃ ox' od', PySem.W.InstAt s'.heap x ox' C od') → (∃ o', s'.heap.get? l = some o' ∧ o'.cls = .type "tuple") → Q (.bool true) s' → wpAny (model prog w) A (tryCompare (.ref l) (cmpInfo .NotEq).2.2 (.ref x)) (fun r s2 => r = none ∧ s2 = s') E s' := fun s' X' ⟨ox', od', I'⟩ ht' _ => by
    refine wpAny_tryCompare_declines (T := "tuple") (id := "tuple.__ne__") ht' F.slot_tuple_ne_refl (GQ.call_here (B := Builtin.«tuple.__ne__») F.slot_tuple_ne_refl ht' F.entry_tuple_ne (F.args_tuple_ne_2 _ _) ?_)
    exact tup_ne_dec (I'.type.andThen (PySem.W.looks_mroIn X' hm)) ⟨rfl, rfl, rfl⟩
  unfold richCompare
  simp only [oneThing_ref]
  refine wpAny_holding (wpAny_bind (wpAny_cRoomFor hu ?_))
  refine wpAny_bind (I.type.here (wpAny_bind (ht.here ?_)))
  have fin : ∀ s', (∃ ox' od', PySem.W.InstAt s'.heap x ox' C od') → (∃ o', s'.heap.get? l = some o' ∧ o'.cls = .type "tuple") → Q (.bool true) s' → wpAny (model prog w) A (isSame (.ref x) (.ref l)) (fun b s2 => Q (.bool (!b)) s2) E s' := fun s' ⟨ox', od', I'⟩ ⟨o', h1, h2⟩ hq => by
    have hne : (x == l) = false := by
      refine beq_eq_false_iff_ne.mpr fun e => ?_
      subst e
      have := I'.at_.symm.trans h1
      cases this
      rw [I'.cls] at h2
      cases h2
    unfold isSame
    dsimp only
    rw [hne]
    simp only [Bool.false_eq_true, if_false]
    refine wpAny_bind (wpAny_load I'.at_ (wpAny_bind (wpAny_load h1 ?_)))
    rw [I'.cls, h2]
    exact wpAny_pure hq
  split
  · rename_i q
    have e : PySem.W.subIn K (.type "tuple") (.ref C) = some false := by
      rcases Bool.or_eq_true_iff.mp hn with e | e
      · rw [beq_iff_eq.mp e] at q; simp at q
      · exact beq_iff_eq.mp e
    refine wpAny_bind ((PySem.W.looks_subIn X e).here ?_)
    simp only [Bool.false_eq_true, if_false]
    refine wpAny_bind (wpAny_mono one (fun r s' z => ?_) fun _ _ e => e)
    obtain ⟨rfl, X', hi, ht', hq⟩ := z
    simp only [Bool.not_false, if_true]
    refine wpAny_bind (wpAny_mono (two s' X' hi ht' hq) (fun r s2 z => ?_) fun _ _ e => e)
    obtain ⟨rfl, rfl⟩ := z
    dsimp only
    refine wpAny_bind (wpAny_rule ?_)
    exact wpAny_bind (wpAny_mono (fin _ hi ht' hq) (fun b s3 z => wpAny_pure z) fun _ _ e => e)
  · rename_i q
    exact absurd (show (Value.ref C != Value.type "tuple") = true from rfl) q
end
end Dx
end S_DxBL
section S_DxBM
set_option Elab.async false
set_option linter.all false
set_option maxRecDepth 100000
set_option maxHeartbeats 2000000
namespace Dx
open PySem L2 ItX
section
variable {P : Program} {w : World} {K : PySem.W.Frag} {mg : Str → Option Value} {base : Heap} {cm : CM}
structure NiOk (P : Program) (w : World) (K : PySem.W.Frag) (mg : Str → Option Value) (base : Heap) (cm : CM) (k : Nat) (f : Addr) (fd : FuncData) (ps : List Str) (ms : List Bool) (n : Nat) (tt : Rho → Res Bool) : Prop where
  len : ms.length = ps.length
  run : ∀ (A : Around) (outer : List Env) (s : Shared) (H S : Hp) (args : Args) (us : List Value) (vs : List V) (ds : List D), Room k A → Env0 P w K mg base A outer s H → BindsTo s fd args (ps.zip us) → Vals vs us → Ex S H →
    RpM ⟨K, cm, fun _ _ _ _ => False, none, false⟩ S H ms vs ds → tt (startR n ds) = .ok true →
    codeAny (model P w) A (.call (.ref f) args) (fun r s' => match r with
      | .ok (.ret u) => u = .notImplemented ∧ CE outer P w H s (fun _ H' => Ex H H') .none s'
      | _ => False) s
theorem dokNi {x qual : Str} {st : Stmt} {f : Addr} {fd : FuncData} {N ps : List Str} {k : Nat} {ms : List Bool} {c : Expr} {b rest : List Stmt} {p p2 p3 : Pos} {tt : Rho → Res Bool} (F : Fun K x qual st f fd) (S : FnScope N ps (defScope st)) (hm : ms.length = ps.length) (hn : ps.length ≤ N.length)
    (hbody : defBody st = .If c [.Return (some (.Name "NotImplemented" p)) p2] b p3 :: rest)
    (hc : ∀ (cdv : Value) (A : Around) (outer : List Env) (s : Shared) (H : Hp) (E : XK), Room k (A.deeper (PyProof.Rows.envOfC qual (defScope st) s.heap.objs.size f cdv)) →
      PT (cxOf (L2.CX P w) P w K mg base N qual (defScope st) f cdv A outer s H E) c (tT (cfE K cm false E) (G0 ms N.length) tt))
    (hg : (defScope st).names.lookup ("NotImplemented" : Str) = some .globalImplicit) (hmg : mg ("NotImplemented" : Str) = none) (hv : bootBuiltins "NotImplemented" = some .notImplemented) : NiOk P w K mg base cm (k + 1) f fd ps ms N.length tt := by
  refine ⟨hm, fun A outer s H S' args us vs ds hr e0 hb r ex m htt => ?_⟩
  obtain ⟨oc, od, kV, doc, pm, an, cdv, ct, osl, rfl, lk, hcd⟩ := F.ex
  have hl : vs.length = ps.length := by rw [m.len.1, hm]
  rw [hbody] at lk hb
  refine codeAny_mono (ni_of (Q := fun H' => Ex H H') (E := noX) lk hcd S hr e0 hb r hl (fun hr' => ni_if (hc cdv A outer s H noX hr') hg hmg hv) ?_) fun r s' hq => ?_
  · refine ⟨S', H, S', startR N.length ds, env_start ex (RpM.cf (c := ⟨K, cm, fun _ _ _ _ => False, none, false⟩) (c' := cfE K cm false noX) rfl rfl m) (by omega), ?_⟩
    rw [htt]
    exact fun S1 H1 w1 b' e => ⟨e, w1.h⟩
  · cases r with
    | error e => exact (cx_never hq).elim
    | ok fl => cases fl with
      | ret u => exact hq
      | next => exact hq
      | brk => exact hq
      | cont => exact hq
end
section
variable {X : Cx} {c : Cf} {C fa : Addr} {k n : Nat} {fd : FuncData} {ps : List Str} {ms : List Bool} {tt : Rho → Res Bool} {cm : CM} {cn : Str}
def rNi (K : PySem.W.Frag) (cm : CM) (C : Addr) (res : Bool) (n : Nat) (tt : Rho → Res Bool) : R2 := fun x y H Q => ∃ (a dx : Addr) (fs : List (Str × V)) (l : Addr) (xs : List V) (S : Hp) (ds : List D), x = .ref a ∧ y = .ref l ∧ H a = some (.ins C dx fs) ∧ H l = some (.tup xs) ∧ Ex S H ∧
  RpM ⟨K, cm, fun _ _ _ _ => False, none, false⟩ S H [true, true] [.ref a, .ref l] ds ∧ tt (startR n ds) = .ok true ∧ ∀ H', Ex H H' → Q (.bl res) H'
theorem op_niEq (hm : L2.Meth X.K C "__eq__" fa) (F1 : NiOk X.prog X.w X.K X.mg X.base cm k fa fd ps [true, true] n tt) (hr : Room k X.A) (hb : L2.Binds X.K fd ps []) (hn : PySem.W.notFirst X.K C (.type "tuple") = true) (hmr : PySem.W.mroIn X.K C (.type "tuple") = some false) : OpR X (compareOp .Eq) (rNi X.K cm C false n tt) := by
  intro pins s σ H x y v u Q I rx ry h
  obtain ⟨a, dx, fs, l, xs, S, ds, rfl, rfl, ha, hl, ex, m, htt, q⟩ := h
  cases rx
  cases ry
  obtain ⟨ox, od, J, _⟩ := ins_at I ha
  obtain ⟨mf, hF⟩ := I.fr
  obtain ⟨_, _, _, ol, h1, h2, _⟩ := (I.hok l _ hl)
  have ht : PySem.W.Looks (model X.prog X.w) s.heap (typeOf (.ref l)) (.type "tuple") := by
    have z : PySem.W.Looks (model X.prog X.w) s.heap (typeOf (.ref l)) ol.cls := (PySem.W.Looks.ld h1).andThen .now
    rw [h2] at z
    exact z
  have hlen : ([Value.ref a, Value.ref l] ++ []).length = ps.length := F1.len
  have hb2 := hb s [.ref a, .ref l] I.kIn hlen
  rw [List.append_nil] at hb2
  show wpAny _ _ (richCompare .Eq _ _) _ _ _
  refine ni_eq_K hr.units0 hF I.ok.mod.kin J ht hn hm.at_ hm.fn hmr (wpAny_call (codeAny_mono (F1.run X.A X.stack s H S ⟨[.ref a, .ref l], []⟩ [.ref a, .ref l] [.ref a, .ref l] ds hr I.env0 hb2 (.cons rfl (.cons rfl .nil)) ex m htt) fun r s' hq => ?_))
  cases r with
  | error e => exact hq.elim
  | ok fl => cases fl with
    | next => exact hq.elim
    | brk => exact hq.elim
    | cont => exact hq.elim
    | ret w =>
      obtain ⟨rfl, ce⟩ := hq
      obtain ⟨v', H', I', _, he⟩ := I.after ce
      obtain ⟨ox', od', J', _⟩ := ins_at I' (he a _ ha)
      obtain ⟨_, _, _, ol', g1, g2, _⟩ := (I'.hok l _ (he l _ hl))
      exact ⟨rfl, I'.kIn, ⟨ox', od', J'⟩, ⟨ol', g1, g2⟩, .bl false, H', I', rfl, q H' he⟩
theorem op_niNotEq (hm : L2.Meth X.K C "__ne__" fa) (F1 : NiOk X.prog X.w X.K X.mg X.base cm k fa fd ps [true, true] n tt) (hr : Room k X.A) (hb : L2.Binds X.K fd ps []) (hn : PySem.W.notFirst X.K C (.type "tuple") = true) (hmr : PySem.W.mroIn X.K C (.type "tuple") = some false) : OpR X (compareOp .NotEq) (rNi X.K cm C true n tt) := by
  intro pins s σ H x y v u Q I rx ry h
  obtain ⟨a, dx, fs, l, xs, S, ds, rfl, rfl, ha, hl, ex, m, htt, q⟩ := h
  cases rx
  cases ry
  obtain ⟨ox, od, J, _⟩ := ins_at I ha
  obtain ⟨mf, hF⟩ := I.fr
  obtain ⟨_, _, _, ol, h1, h2, _⟩ := (I.hok l _ hl)
  have ht : PySem.W.Looks (model X.prog X.w) s.heap (typeOf (.ref l)) (.type "tuple") := by
    have z : PySem.W.Looks (model X.prog X.w) s.heap (typeOf (.ref l)) ol.cls := (PySem.W.Looks.ld h1).andThen .now
    rw [h2] at z
    exact z
  have hlen : ([Value.ref a, Value.ref l] ++ []).length = ps.length := F1.len
  have hb2 := hb s [.ref a, .ref l] I.kIn hlen
  rw [List.append_nil] at hb2
  show wpAny _ _ (richCompare .NotEq _ _) _ _ _
  refine ni_ne_K hr.units0 hF I.ok.mod.kin J ht hn hm.at_ hm.fn hmr (wpAny_call (codeAny_mono (F1.run X.A X.stack s H S ⟨[.ref a, .ref l], []⟩ [.ref a, .ref l] [.ref a, .ref l] ds hr I.env0 hb2 (.cons rfl (.cons rfl .nil)) ex m htt) fun r s' hq => ?_))
  cases r with
  | error e => exact hq.elim
  | ok fl => cases fl with
    | next => exact hq.elim
    | brk => exact hq.elim
    | cont => exact hq.elim
    | ret w =>
      obtain ⟨rfl, ce⟩ := hq
      obtain ⟨v', H', I', _, he⟩ := I.after ce
      obtain ⟨ox', od', J', _⟩ := ins_at I' (he a _ ha)
      obtain ⟨_, _, _, ol', g1, g2, _⟩ := (I'.hok l _ (he l _ hl))
      exact ⟨rfl, I'.kIn, ⟨ox', od', J'⟩, ⟨ol', g1, g2⟩, .bl true, H', I', rfl, q H' he⟩
def niD (cn : Str) (res : Bool) (n : Nat) (tt : Rho → Res Bool) (x d : D) : Res D := if isCls cn x = true then (match d with
  | .tup _ => (match tt (startR n [x, d]) with
    | .ok true => .ok (.bl res)
    | _ => .bad)
  | _ => .bad) else .bad
theorem os_ni {res : Bool} (hcn : c.cm cn = some C) : OpS c (mV c) (rNi c.K c.cm C res n tt) (niD cn res n tt) := by
  intro σ S H x y d e Q ex hx hy p
  unfold niD at p
  split at p
  · rename_i hc
    obtain ⟨a, dx, gs, rfl, h2⟩ := of_isCls ex hcn hc hx
    split at p
    · rename_i ys
      obtain ⟨l, xs, rfl, s1, r1, hS⟩ := hy.tup ex
      split at p
      · rename_i htt
        exact ⟨a, dx, gs, l, xs, S, [d, .tup ys], rfl, rfl, h2, ex _ _ hS, ex, ⟨hx, hy, trivial⟩, htt, fun H' he => p S H' ⟨Ex.refl, he, ex.trans he, fun a o h n => by rw [n] at h; cases h⟩ (.bl res) (.bl res)⟩
      · exact p.elim
    · exact p.elim
  · exact p.elim
theorem rs_ni {res : Bool} {x d : D} {ds : List D} {Q : D → Prop} {E : Str → List Str → List D → Prop} (h1 : isCls cn x = true) (h2 : d = .tup ds) (h3 : tt (startR n [x, d]) = .ok true) (q : Q (.bl res)) : Rs (niD cn res n tt x d) Q E := by
  subst h2
  unfold niD
  rw [if_pos h1]
  dsimp only
  rw [h3]
  exact q
end
end Dx
end S_DxBM
section S_P_data
set_option Elab.async false
set_option linter.all false
set_option maxRecDepth 100000
namespace Lk
open PySem L2 Dx
noncomputable section
def md_RANGES : List (Str × D) := [((Sg [102, 97, 99, 101]), .kt [.int 0, .int 2]), ((Sg [115, 105, 122, 101]), .kt [.int 1, .int 3]), ((Sg [119, 105, 100, 101]), .kt [.int 0, .int 3]), ((Sg [100, 114, 111, 112]), .kt [.int 0, .int 3]), ((Sg [105, 110, 100, 101, 110, 116]), .kt [.int 0, .int 9]), ((Sg [98, 101, 102, 111, 114, 101]), .kt [.int 0, .int 9])]
def md_LINKS : List (Str × D) := [((Sg [62]), .str (Sg [112, 97, 114, 101, 110, 116])), ((Sg [43]), .str (Sg [101, 108, 100, 101, 114]))]
def Tt_Rank_eq : Rho → Res Bool := (dNot (dT (dUn (isiO "Rank") (dVar 1))))
def Tt_Rank_ne : Rho → Res Bool := (dNot (dT (dUn (isiO "Rank") (dVar 1))))
def Lp_is_name_1 : Rho → SR := (ifF (dT (dOp ninD (dVar 1) (dC (.str (Sg [97, 98, 99, 100, 101, 102, 103, 104, 105, 106, 107, 108, 109, 110, 111, 112, 113, 114, 115, 116, 117, 118, 119, 120, 121, 122]))))) (retF (dC (.bl false))) .nx)
def Fb_is_name : Rho → SR := (seqF (ifF (dNot (dT (dChain leD leD (dC (.int 1)) (dCall (g1 lenD) (dCons (dVar 0) dNil)) (dC (.int 8))))) (retF (dC (.bl false))) .nx) (seqF (forF (dIt itemsS (dVar 0)) (tgN 1) Lp_is_name_1) (retF (dC (.bl true)))))
def F_is_name : List D → Res D := runF 2 false Fb_is_name
def Lp_digits_value_1 : Rho → SR := (ifF (dT (dOp ninD (dVar 1) (dC (.str (Sg [48, 49, 50, 51, 52, 53, 54, 55, 56, 57]))))) (retF (dC .non)) .nx)
def Fb_digits_value : Rho → SR := (seqF (ifF (dOr (dT (dOp eqD (dVar 0) (dC (.str (Sg []))))) (dT (dOp gtD (dCall (g1 lenD) (dCons (dVar 0) dNil)) (dC (.int 12))))) (retF (dC .non)) .nx) (seqF (forF (dIt itemsS (dVar 0)) (tgN 1) Lp_digits_value_1) (seqF (ifF (dAnd (dT (dOp gtD (dCall (g1 lenD) (dCons (dVar 0) dNil)) (dC (.int 1)))) (dT (dOp eqD (dOp ixD (dVar 0) (dC (.int 0))) (dC (.str (Sg [48])))))) (retF (dC .non)) .nx) (retF (dCall (g1 intD) (dCons (dVar 0) dNil))))))
def F_digits_value : List D → Res D := runF 2 false Fb_digits_value
def Fb_read_test : Rho → SR := (seqF (asgF (tgT 3 (tgCons (tgN 1) (tgCons (tgN 2) (tgCons (tgN 3) tgNil)))) (dStr partD (dVar 0) (dC (.str (Sg [46]))))) (seqF (ifF (dAnd (dT (dOp neD (dVar 1) (dC (.str (Sg [42]))))) (dNot (dT (dCall F_is_name (dCons (dVar 1) dNil))))) (retF (dC .non)) .nx) (seqF (ifF (dAnd (dT (dOp neD (dVar 2) (dC (.str (Sg []))))) (dNot (dT (dCall F_is_name (dCons (dVar 3) dNil))))) (retF (dC .non)) .nx) (retF (dTup (dCons (dVar 1) (dCons (dVar 3) dNil)))))))
def F_read_test : List D → Res D := runF 4 false Fb_read_test
def Lp_read_pattern_1 : Rho → SR := (seqF (ifF (dAnd (dT (dUn (mdIn false md_LINKS) (dVar 4))) (dT (dOp eqD (dVar 3) (dC (.str (Sg [97, 110, 99, 101, 115, 116, 111, 114])))))) (seqF (setF 3 (dUn (mdGet md_LINKS) (dVar 4))) .ct) .nx) (seqF (setF 5 (dCall F_read_test (dCons (dVar 4) dNil))) (seqF (ifF (dT (dOp (isD false) (dVar 5) (dC .non))) (retF (dC .non)) .nx) (seqF (appF 1 (dVar 5)) (seqF (appF 2 (dVar 3)) (setF 3 (dC (.str (Sg [97, 110, 99, 101, 115, 116, 111, 114])))))))))
def Fb_read_pattern : Rho → SR := (seqF (setF 1 (dLst dNil)) (seqF (setF 2 (dLst dNil)) (seqF (setF 3 (dC (.str (Sg [115, 116, 97, 114, 116])))) (seqF (forF (dIt itemsL (dStr splitD (dVar 0) (dC (.str (Sg [32]))))) (tgN 4) Lp_read_pattern_1) (seqF (ifF (dOr (dT (dOp neD (dVar 3) (dC (.str (Sg [97, 110, 99, 101, 115, 116, 111, 114]))))) (dT (dOp gtD (dCall (g1 lenD) (dCons (dVar 1) dNil)) (dC (.int 4))))) (retF (dC .non)) .nx) (retF (dTup (dCons (dCall (g1 tupleD) (dCons (dVar 1) dNil)) (dCons (dCall (g1 tupleD) (dCons (dVar 2) dNil)) dNil)))))))))
def F_read_pattern : List D → Res D := runF 6 false Fb_read_pattern
def Lp_Points_init_1 : Rho → SR := (seqF (appF 2 (dTup (dCons (dVar 7) (dCons (dVar 5) dNil)))) (seqF (putF 4 (dVar 8) (dOp addD (dOp getZ (dVar 4) (dVar 8)) (dVar 5))) (setF 5 (dOp mulX (dVar 5) (dC (.int 2))))))
def Lp_Points_init_2 : Rho → SR := (seqF (forF (dIts zipTT (dCons (dUn (fldD "Pattern" "tests") (dVar 6)) (dCons (dUn (fldD "Pattern" "links") (dVar 6)) dNil))) (tgT 2 (tgCons (tgN 7) (tgCons (tgN 8) tgNil))) Lp_Points_init_1) (appF 3 (dOp fdivD (dVar 5) (dC (.int 2)))))
def Fb_Points_init : Rho → SR := (seqF (setF 2 (dLst dNil)) (seqF (setF 3 (dLst dNil)) (seqF (setF 4 (dDisp [((dC (.str (Sg [115, 116, 97, 114, 116]))), (dC (.int 0))), ((dC (.str (Sg [97, 110, 99, 101, 115, 116, 111, 114]))), (dC (.int 0))), ((dC (.str (Sg [112, 97, 114, 101, 110, 116]))), (dC (.int 0))), ((dC (.str (Sg [101, 108, 100, 101, 114]))), (dC (.int 0)))])) (seqF (setF 5 (dC (.int 1))) (seqF (forF (dIt itemsL (dVar 1)) (tgN 6) Lp_Points_init_2) (seqF (fstF 0 "Points" "tests" (dVar 2)) (seqF (fstF 0 "Points" "linked" (dVar 4)) (fstF 0 "Points" "ends" (dVar 3)))))))))
def F_Points_init : List D → Res D := runI 9 "Points" Fb_Points_init
def Fb_Pattern_init : Rho → SR := (seqF (setF 2 (dCall F_read_pattern (dCons (dVar 1) dNil))) (seqF (ifF (dT (dOp (isD false) (dVar 2) (dC .non))) (raiF "BadPattern" ["text"] false (dCons (dVar 1) dNil)) .nx) (seqF (fstF 0 "Pattern" "text" (dVar 1)) (seqF (fstF 0 "Pattern" "tests" (dOp ixD (dVar 2) (dC (.int 0)))) (fstF 0 "Pattern" "links" (dOp ixD (dVar 2) (dC (.int 1))))))))
def F_Pattern_init : List D → Res D := runI 3 "Pattern" Fb_Pattern_init
def Fb_Pattern_asked : Rho → SR := (retF (dCall (g1 lenD) (dCons (dLc (dIt itemsT (dUn (fldD "Pattern" "tests") (dVar 0))) (tgN 1) (dT (dOp neD (dOp ixD (dVar 1) (dC (.int 1))) (dC (.str (Sg []))))) (dVar 1) [1]) dNil)))
def F_Pattern_asked : List D → Res D := runF 2 false Fb_Pattern_asked
def Fb_Pattern_named : Rho → SR := (retF (dCall (g1 lenD) (dCons (dLc (dIt itemsT (dUn (fldD "Pattern" "tests") (dVar 0))) (tgN 1) (dT (dOp neD (dOp ixD (dVar 1) (dC (.int 0))) (dC (.str (Sg [42]))))) (dVar 1) [1]) dNil)))
def F_Pattern_named : List D → Res D := runF 2 false Fb_Pattern_named
def Fb_Rank_init : Rho → SR := (seqF (fstF 0 "Rank" "firm" (dVar 1)) (seqF (fstF 0 "Rank" "marks" (dVar 2)) (seqF (fstF 0 "Rank" "kinds" (dVar 3)) (fstF 0 "Rank" "index" (dVar 4)))))
def F_Rank_init : List D → Res D := runI 5 "Rank" Fb_Rank_init
def Fb_Rank_parts : Rho → SR := (retF (dTup (dCons (dUn (fldD "Rank" "firm") (dVar 0)) (dCons (dUn (fldD "Rank" "marks") (dVar 0)) (dCons (dUn (fldD "Rank" "kinds") (dVar 0)) (dCons (dUn (fldD "Rank" "index") (dVar 0)) dNil))))))
def F_Rank_parts : List D → Res D := runF 1 false Fb_Rank_parts
def Fb_Rank_eq : Rho → SR := (seqF (ifF (dNot (dT (dUn (isiO "Rank") (dVar 1)))) (fun _ => SR.bad) .nx) (retF (dOp eqD (dMeth "Rank" "parts" F_Rank_parts (dVar 0) dNil) (dMeth "Rank" "parts" F_Rank_parts (dVar 1) dNil))))
def F_Rank_eq : List D → Res D := runF 2 false Fb_Rank_eq
def Fb_Rank_ne : Rho → SR := (seqF (ifF (dNot (dT (dUn (isiO "Rank") (dVar 1)))) (fun _ => SR.bad) .nx) (retF (dOp neD (dMeth "Rank" "parts" F_Rank_parts (dVar 0) dNil) (dMeth "Rank" "parts" F_Rank_parts (dVar 1) dNil))))
def F_Rank_ne : List D → Res D := runF 2 false Fb_Rank_ne
def Fb_Rank_lt : Rho → SR := (seqF (ifF (dNot (dT (dUn (isiO "Rank") (dVar 1)))) (fun _ => SR.bad) .nx) (retF (dOp (ordTD lexLt) (dMeth "Rank" "parts" F_Rank_parts (dVar 0) dNil) (dMeth "Rank" "parts" F_Rank_parts (dVar 1) dNil))))
def F_Rank_lt : List D → Res D := runF 2 false Fb_Rank_lt
def Fb_Rank_le : Rho → SR := (seqF (ifF (dNot (dT (dUn (isiO "Rank") (dVar 1)))) (fun _ => SR.bad) .nx) (retF (dOp (ordTD lexLtE) (dMeth "Rank" "parts" F_Rank_parts (dVar 0) dNil) (dMeth "Rank" "parts" F_Rank_parts (dVar 1) dNil))))
def F_Rank_le : List D → Res D := runF 2 false Fb_Rank_le
def Fb_Rank_gt : Rho → SR := (seqF (ifF (dNot (dT (dUn (isiO "Rank") (dVar 1)))) (fun _ => SR.bad) .nx) (retF (dOp (ordTD lexGt) (dMeth "Rank" "parts" F_Rank_parts (dVar 0) dNil) (dMeth "Rank" "parts" F_Rank_parts (dVar 1) dNil))))
def F_Rank_gt : List D → Res D := runF 2 false Fb_Rank_gt
def Fb_Rank_ge : Rho → SR := (seqF (ifF (dNot (dT (dUn (isiO "Rank") (dVar 1)))) (fun _ => SR.bad) .nx) (retF (dOp (ordTD lexGtE) (dMeth "Rank" "parts" F_Rank_parts (dVar 0) dNil) (dMeth "Rank" "parts" F_Rank_parts (dVar 1) dNil))))
def F_Rank_ge : List D → Res D := runF 2 false Fb_Rank_ge
def Fb_read_value : Rho → SR := (seqF (setF 1 (dStr splitD (dVar 0) (dC (.str (Sg [32]))))) (seqF (setF 2 (dAndV (dOp eqD (dCall (g1 lenD) (dCons (dVar 1) dNil)) (dC (.int 3))) (dOp eqD (dOp ixD (dVar 1) (dC (.int 2))) (dC (.str (Sg [102, 105, 114, 109])))))) (seqF (ifF (dOr (dAnd (dT (dOp neD (dCall (g1 lenD) (dCons (dVar 1) dNil)) (dC (.int 2)))) (dNot (dTru (dVar 2)))) (dT (dUn (mdIn true md_RANGES) (dOp ixD (dVar 1) (dC (.int 0)))))) (raiF "BadValue" ["text"] false (dCons (dVar 0) dNil)) .nx) (seqF (asgF (tgT 2 (tgCons (tgN 3) (tgCons (tgN 4) tgNil))) (dUn (mdGet md_RANGES) (dOp ixD (dVar 1) (dC (.int 0))))) (seqF (setF 5 (dCall F_digits_value (dCons (dOp ixD (dVar 1) (dC (.int 1))) dNil))) (seqF (ifF (dOr (dT (dOp (isD false) (dVar 5) (dC .non))) (dNot (dT (dChain leD leD (dVar 3) (dVar 5) (dVar 4))))) (raiF "BadValue" ["text"] false (dCons (dVar 0) dNil)) .nx) (retF (dTup (dCons (dOp ixD (dVar 1) (dC (.int 0))) (dCons (dVar 5) (dCons (dVar 2) dNil)))))))))))
def F_read_value : List D → Res D := runF 6 false Fb_read_value
def Fb_read_row : Rho → SR := (seqF (asgF (tgT 3 (tgCons (tgN 2) (tgCons (tgN 3) (tgCons (tgN 4) tgNil)))) (dStr partD (dVar 0) (dC (.str (Sg [58, 32]))))) (seqF (thruF (seqF (setF 5 (dCall F_Pattern_init (dCons (dVar 2) dNil))) (asgF (tgT 3 (tgCons (tgN 6) (tgCons (tgN 7) (tgCons (tgN 8) tgNil)))) (dCall F_read_value (dCons (dVar 4) dNil))))) (retF (dTup (dCons (dVar 5) (dCons (dVar 6) (dCons (dVar 7) (dCons (dVar 8) dNil))))))))
def F_read_row : List D → Res D := runF 10 false Fb_read_row
def Lp_descending_1 : Rho → SR := (setF 3 (dOp addD (dVar 3) (dC (.int 1))))
def Lp_descending_2 : Rho → SR := (seqF (setF 3 (dC (.int 0))) (seqF (whileN (dAnd (dT (dOp ltD (dVar 3) (dCall (g1 lenD) (dCons (dVar 1) dNil)))) (dT (dOp (binO "Rank" F_Rank_gt) (dOp ixD (dVar 1) (dVar 3)) (dVar 2)))) Lp_descending_1 100000) (insF 1 (dVar 3) (dVar 2))))
def Fb_descending : Rho → SR := (seqF (setF 1 (dLst dNil)) (seqF (forF (dIt itemsL (dVar 0)) (tgN 2) Lp_descending_2) (retF (dLc (dIt itemsL (dVar 1)) (tgN 2) dYes (dUn (fldD "Rank" "index") (dVar 2)) [2]))))
def F_descending : List D → Res D := runF 4 false Fb_descending
def Fb_Sheet_row : Rho → SR := (seqF (ifF (dNot (dT (dChain leD ltD (dC (.int 0)) (dVar 1) (dCall (g1 lenD) (dCons (dUn (fldD "Sheet" "rows") (dVar 0)) dNil))))) (raiF "NoSuchNumber" ["number"] false (dCons (dVar 1) dNil)) .nx) (retF (dOp ixD (dUn (fldD "Sheet" "rows") (dVar 0)) (dVar 1))))
def F_Sheet_row : List D → Res D := runF 2 false Fb_Sheet_row
def Fb_Sheet_rank : Rho → SR := (seqF (asgF (tgT 4 (tgCons (tgN 2) (tgCons (tgN 3) (tgCons (tgN 4) (tgCons (tgN 5) tgNil))))) (dMeth "Sheet" "row" F_Sheet_row (dVar 0) (dCons (dVar 1) dNil))) (retF (dCall F_Rank_init (dCons (dVar 5) (dCons (dProp "Pattern" F_Pattern_asked (dVar 2)) (dCons (dProp "Pattern" F_Pattern_named (dVar 2)) (dCons (dVar 1) dNil)))))))
def F_Sheet_rank : List D → Res D := runF 6 false Fb_Sheet_rank
def Fb_Sheet_init : Rho → SR := (seqF (ifF (dT (dOp gtD (dCall (g1 lenD) (dCons (dVar 1) dNil)) (dC (.int 12)))) (raiF "TooLarge" ["many"] false (dCons (dCall (g1 lenD) (dCons (dVar 1) dNil)) dNil)) .nx) (seqF (fstF 0 "Sheet" "rows" (dLc (dIt enumL (dVar 1)) (tgT 2 (tgCons (tgN 2) (tgCons (tgN 3) tgNil))) dYes (dCall F_read_row (dCons (dVar 3) (dCons (dOp addD (dVar 2) (dC (.int 1))) dNil))) [2, 3])) (seqF (fstF 0 "Sheet" "lines" (dCall (g1 listD) (dCons (dVar 1) dNil))) (seqF (fstF 0 "Sheet" "points" (dCall F_Points_init (dCons (dLc (dIt itemsL (dUn (fldD "Sheet" "rows") (dVar 0))) (tgN 4) dYes (dOp ixD (dVar 4) (dC (.int 0))) [4]) dNil))) (fstF 0 "Sheet" "order" (dCall F_descending (dCons (dLc (dIts rng1 (dCons (dCall (g1 lenD) (dCons (dUn (fldD "Sheet" "rows") (dVar 0)) dNil)) dNil)) (tgN 2) dYes (dMeth "Sheet" "rank" F_Sheet_rank (dVar 0) (dCons (dVar 2) dNil)) [2]) dNil)))))))
def F_Sheet_init : List D → Res D := runI 5 "Sheet" Fb_Sheet_init
def Fb_l_cell : Rho → SR := (seqF (ifF (dT (dOp ltD (dVar 1) (dCall (g1 lenD) (dCons (dVar 0) dNil)))) (retF (dCall (g1 intD) (dCons (dOp ixD (dVar 0) (dVar 1)) dNil))) .nx) (retF (dOp addD (dOp mulX (dC (.int 7)) (dVar 1)) (dC (.int 1)))))
def F_l_cell : List D → Res D := runF 2 false Fb_l_cell
def Lp_l_row_1 : Rho → SR := (seqF (appF 2 (dOp modD (dCall (g1 intD) (dCons (dVar 3) dNil)) (dVar 4))) (setF 3 (dOp fdivD (dVar 3) (dVar 4))))
def Lp_l_row_2 : Rho → SR := (seqF (setF 6 (dOp modD (dCall (g1 intD) (dCons (dOp addD (dOp addD (dOp mulX (dVar 0) (dC (.int 48271))) (dOp mulX (dVar 5) (dC (.int 69621)))) (dC (.int 11))) dNil)) (dC (.int 2147483647)))) (seqF (setF 6 (dOp modD (dCall (g1 intD) (dCons (dOp addD (dOp addD (dOp mulX (dVar 6) (dOp addD (dC (.int 16807)) (dOp mulX (dC (.int 2)) (dVar 5)))) (dOp mulX (dOp mulX (dVar 5) (dVar 5)) (dC (.int 40692)))) (dC (.int 7))) dNil)) (dC (.int 2147483399)))) (appF 2 (dOp modD (dCall (g1 intD) (dCons (dOp fdivD (dVar 6) (dC (.int 31))) dNil)) (dOp ixD (dVar 1) (dVar 5))))))
def Fb_l_row : Rho → SR := (seqF (setF 2 (dLst dNil)) (seqF (ifF (dT (dOp geD (dVar 0) (dC (.int 1000000000000000000)))) (seqF (setF 3 (dOp subD (dVar 0) (dC (.int 1000000000000000000)))) (seqF (forF (dIt itemsL (dVar 1)) (tgN 4) Lp_l_row_1) (retF (dVar 2)))) .nx) (seqF (forF (dIts rng1 (dCons (dCall (g1 lenD) (dCons (dVar 1) dNil)) dNil)) (tgN 5) Lp_l_row_2) (retF (dVar 2)))))
def F_l_row : List D → Res D := runF 7 false Fb_l_row
def Fb_l_number : Rho → SR := (retF (dAndV (dUn (isiD "int") (dVar 0)) (dNotV (dUn (isiD "bool") (dVar 0)))))
def F_l_number : List D → Res D := runF 1 false Fb_l_number
def Fb_l_parts : Rho → SR := (seqF (setF 2 (dCall F_l_row (dCons (dVar 0) (dCons (dLst (dCons (dC (.int 7)) (dCons (dC (.int 2)) (dCons (dC (.int 5)) (dCons (dC (.int 5)) (dCons (dC (.int 12)) dNil)))))) dNil)))) (seqF (setF 3 (dTup (dCons (dOp eqD (dOp ixD (dVar 2) (dC (.int 1))) (dC (.int 1))) (dCons (dOp ixD (dVar 2) (dC (.int 2))) (dCons (dOp ixD (dVar 2) (dC (.int 3))) (dCons (dOp ixD (dVar 2) (dC (.int 4))) dNil)))))) (seqF (ifF (dOr (dT (dOp eqD (dVar 1) (dTup dNil))) (dT (dOp gtD (dOp ixD (dVar 2) (dC (.int 0))) (dC (.int 4))))) (retF (dVar 3)) .nx) (retF (dCall (g1 tupleD) (dCons (dLc (dIts rng1 (dCons (dC (.int 4)) dNil)) (tgN 4) dYes (dIf (dT (dOp eqD (dVar 4) (dOp ixD (dVar 2) (dC (.int 0))))) (dOp ixD (dVar 3) (dVar 4)) (dOp ixD (dVar 1) (dVar 4))) [4]) dNil))))))
def F_l_parts : List D → Res D := runF 5 false Fb_l_parts
def Lp_l_line_1 : Rho → SR := (seqF (ifF (dT (dOp gtD (dVar 6) (dC (.int 0)))) (setF 3 (dOp addD (dVar 3) (dOp ixD (dLst (dCons (dC (.str (Sg [32]))) (dCons (dC (.str (Sg [32, 62, 32]))) (dCons (dC (.str (Sg [32, 43, 32]))) dNil)))) (dOp ixD (dVar 2) (dOp mulX (dC (.int 3)) (dVar 6)))))) .nx) (seqF (setF 7 (dOp ixD (dLst (dCons (dC (.str (Sg [112, 97, 114]))) (dCons (dC (.str (Sg [101, 109]))) (dCons (dC (.str (Sg [42]))) (dCons (dC (.str (Sg [104, 101, 97, 100]))) dNil))))) (dOp ixD (dVar 2) (dOp addD (dOp mulX (dC (.int 3)) (dVar 6)) (dC (.int 1)))))) (seqF (setF 3 (dOp addD (dVar 3) (dVar 7))) (seqF (setF 5 (dOp addD (dVar 5) (dCall (g1 intD) (dCons (dOp neD (dVar 7) (dC (.str (Sg [42])))) dNil)))) (ifF (dT (dOp gtD (dOp ixD (dVar 2) (dOp addD (dOp mulX (dC (.int 3)) (dVar 6)) (dC (.int 2)))) (dC (.int 0)))) (seqF (setF 3 (dOp addD (dVar 3) (dOp ixD (dLst (dCons (dC (.str (Sg [46, 97]))) (dCons (dC (.str (Sg [46, 98]))) dNil))) (dOp subD (dOp ixD (dVar 2) (dOp addD (dOp mulX (dC (.int 3)) (dVar 6)) (dC (.int 2)))) (dC (.int 1)))))) (setF 4 (dOp addD (dVar 4) (dC (.int 1))))) .nx)))))
def Fb_l_line : Rho → SR := (seqF (setF 2 (dCall F_l_row (dCons (dVar 0) (dCons (dLst (dCons (dC (.int 3)) (dCons (dC (.int 4)) (dCons (dC (.int 3)) (dCons (dC (.int 3)) (dCons (dC (.int 4)) (dCons (dC (.int 3)) (dCons (dC (.int 3)) (dCons (dC (.int 4)) (dCons (dC (.int 3)) (dCons (dC (.int 3)) (dCons (dC (.int 6)) (dCons (dC (.int 3)) dNil))))))))))))) dNil)))) (seqF (setF 3 (dC (.str (Sg [])))) (seqF (setF 4 (dC (.int 0))) (seqF (setF 5 (dC (.int 0))) (seqF (forF (dIts rng1 (dCons (dOp addD (dOp ixD (dVar 2) (dC (.int 0))) (dC (.int 1))) dNil)) (tgN 6) Lp_l_line_1) (seqF (setF 8 (dOp ixD (dLst (dCons (dC (.str (Sg [102, 97, 99, 101]))) (dCons (dC (.str (Sg [115, 105, 122, 101]))) (dCons (dC (.str (Sg [119, 105, 100, 101]))) (dCons (dC (.str (Sg [100, 114, 111, 112]))) (dCons (dC (.str (Sg [105, 110, 100, 101, 110, 116]))) (dCons (dC (.str (Sg [98, 101, 102, 111, 114, 101]))) dNil))))))) (dOp ixD (dVar 2) (dC (.int 10))))) (seqF (setF 3 (dOp addD (dOp addD (dOp addD (dOp addD (dVar 3) (dC (.str (Sg [58, 32])))) (dVar 8)) (dC (.str (Sg [32])))) (dOp ixD (dLst (dCons (dC (.str (Sg [49]))) (dCons (dC (.str (Sg [50]))) (dCons (dC (.str (Sg [49]))) dNil)))) (dOp ixD (dVar 2) (dC (.int 11)))))) (seqF (ifF (dT (dOp eqD (dOp ixD (dVar 2) (dC (.int 9))) (dC (.int 0)))) (retF (dLst (dCons (dOp addD (dVar 3) (dC (.str (Sg [32, 102, 105, 114, 109])))) (dCons (dTup (dCons (dC (.bl true)) (dCons (dVar 4) (dCons (dVar 5) (dCons (dVar 1) dNil))))) dNil)))) .nx) (retF (dLst (dCons (dVar 3) (dCons (dTup (dCons (dC (.bl false)) (dCons (dVar 4) (dCons (dVar 5) (dCons (dVar 1) dNil))))) dNil))))))))))))
def F_l_line : List D → Res D := runF 9 false Fb_l_line
def Lp_l_order_1 : Rho → SR := (ifF (dT (dOp neD (dCall (g1 intD) (dCons (dOp ixD (dVar 0) (dVar 2)) dNil)) (dCall (g1 intD) (dCons (dOp ixD (dVar 1) (dVar 2)) dNil)))) (retF (dOp subD (dCall (g1 intD) (dCons (dOp ixD (dVar 0) (dVar 2)) dNil)) (dCall (g1 intD) (dCons (dOp ixD (dVar 1) (dVar 2)) dNil)))) .nx)
def Fb_l_order : Rho → SR := (seqF (forF (dIts rng1 (dCons (dC (.int 4)) dNil)) (tgN 2) Lp_l_order_1) (retF (dC (.int 0))))
def F_l_order : List D → Res D := runF 3 false Fb_l_order
def Lp_l_fields_1 : Rho → SR := (ifF (dOr (dNot (dT (dCall F_l_number (dCons (dOp ixD (dVar 2) (dVar 3)) dNil)))) (dT (dOp neD (dOp ixD (dVar 2) (dVar 3)) (dOp ixD (dVar 1) (dOp addD (dVar 3) (dC (.int 1))))))) (retF (dC (.bl false))) .nx)
def Fb_l_fields : Rho → SR := (seqF (ifF (dOr (dNot (dT (dUn (isiO "Rank") (dVar 0)))) (dOr (dNot (dT (dUn (isiD "bool") (dUn (fldD "Rank" "firm") (dVar 0))))) (dT (dOp neD (dUn (fldD "Rank" "firm") (dVar 0)) (dOp ixD (dVar 1) (dC (.int 0))))))) (retF (dC (.bl false))) .nx) (seqF (setF 2 (dLst (dCons (dUn (fldD "Rank" "marks") (dVar 0)) (dCons (dUn (fldD "Rank" "kinds") (dVar 0)) (dCons (dUn (fldD "Rank" "index") (dVar 0)) dNil))))) (seqF (forF (dIts rng1 (dCons (dC (.int 3)) dNil)) (tgN 3) Lp_l_fields_1) (retF (dAndV (dOp (isBD false) (dOp (niD "Rank" false 2 Tt_Rank_eq) (dVar 0) (dVar 1)) (dC (.bl false))) (dOp (isBD false) (dOp (niD "Rank" true 2 Tt_Rank_ne) (dVar 0) (dVar 1)) (dC (.bl true))))))))
def F_l_fields : List D → Res D := runF 4 false Fb_l_fields
def Lp_l_compared_1 : Rho → SR := (ifF (dOr (dNot (dT (dUn (isiD "bool") (dOp ixD (dVar 3) (dVar 5))))) (dT (dOp neD (dOp ixD (dVar 3) (dVar 5)) (dOp ixD (dVar 4) (dVar 5))))) (retF (dC (.bl false))) .nx)
def Fb_l_compared : Rho → SR := (seqF (setF 3 (dLst (dCons (dOp (binO "Rank" F_Rank_eq) (dVar 0) (dVar 1)) (dCons (dOp (binO "Rank" F_Rank_ne) (dVar 0) (dVar 1)) (dCons (dOp (binO "Rank" F_Rank_lt) (dVar 0) (dVar 1)) (dCons (dOp (binO "Rank" F_Rank_le) (dVar 0) (dVar 1)) (dCons (dOp (binO "Rank" F_Rank_gt) (dVar 0) (dVar 1)) (dCons (dOp (binO "Rank" F_Rank_ge) (dVar 0) (dVar 1)) dNil)))))))) (seqF (setF 4 (dLst (dCons (dOp eqD (dVar 2) (dC (.int 0))) (dCons (dOp neD (dVar 2) (dC (.int 0))) (dCons (dOp ltD (dVar 2) (dC (.int 0))) (dCons (dOp leD (dVar 2) (dC (.int 0))) (dCons (dOp gtD (dVar 2) (dC (.int 0))) (dCons (dOp geD (dVar 2) (dC (.int 0))) dNil)))))))) (seqF (forF (dIts rng1 (dCons (dC (.int 6)) dNil)) (tgN 5) Lp_l_compared_1) (retF (dC (.bl true))))))
def F_l_compared : List D → Res D := runF 6 false Fb_l_compared
def Lp_law_1 : Rho → SR := (seqF (setF 2 (dCall F_l_parts (dCons (dCall F_l_cell (dCons (dVar 0) (dCons (dVar 3) dNil))) (dCons (dVar 2) dNil)))) (appF 1 (dVar 2)))
def Lp_law_2 : Rho → SR := (seqF (appF 1 (dOp ixD (dOp ixD (dVar 7) (dVar 3)) (dC (.int 1)))) (appF 4 (dMeth "Sheet" "rank" F_Sheet_rank (dVar 8) (dCons (dVar 3) dNil))))
def Lp_law_3 : Rho → SR := (ifF (dNot (dT (dCall F_l_compared (dCons (dOp ixD (dVar 4) (dVar 5)) (dCons (dOp ixD (dVar 4) (dVar 9)) (dCons (dCall F_l_order (dCons (dOp ixD (dVar 1) (dVar 5)) (dCons (dOp ixD (dVar 1) (dVar 9)) dNil))) dNil)))))) (retF (dC (.bl false))) .nx)
def Lp_law_4 : Rho → SR := (seqF (ifF (dNot (dT (dCall F_l_fields (dCons (dOp ixD (dVar 4) (dVar 5)) (dCons (dOp ixD (dVar 1) (dVar 5)) dNil))))) (retF (dC (.bl false))) .nx) (forF (dIts rng1 (dCons (dCall (g1 lenD) (dCons (dVar 1) dNil)) dNil)) (tgN 9) Lp_law_3))
def Fb_law : Rho → SR := (seqF (setF 1 (dLst dNil)) (seqF (setF 2 (dTup dNil)) (seqF (forF (dIts rng1 (dCons (dC (.int 3)) dNil)) (tgN 3) Lp_law_1) (seqF (setF 4 (dLc (dIt itemsL (dVar 1)) (tgN 5) dYes (dCall F_Rank_init (dCons (dOp ixD (dVar 5) (dC (.int 0))) (dCons (dOp ixD (dVar 5) (dC (.int 1))) (dCons (dOp ixD (dVar 5) (dC (.int 2))) (dCons (dOp ixD (dVar 5) (dC (.int 3))) dNil))))) [5])) (seqF (setF 6 (dOp addD (dOp modD (dCall (g1 intD) (dCons (dCall F_l_cell (dCons (dVar 0) (dCons (dC (.int 3)) dNil))) dNil)) (dC (.int 3))) (dC (.int 2)))) (seqF (setF 7 (dLc (dIts rng1 (dCons (dVar 6) dNil)) (tgN 3) dYes (dCall F_l_line (dCons (dCall F_l_cell (dCons (dVar 0) (dCons (dOp addD (dC (.int 4)) (dVar 3)) dNil))) (dCons (dVar 3) dNil))) [3])) (seqF (setF 8 (dCall F_Sheet_init (dCons (dLc (dIt itemsL (dVar 7)) (tgN 5) dYes (dOp ixD (dVar 5) (dC (.int 0))) [5]) dNil))) (seqF (forF (dIts rng1 (dCons (dVar 6) dNil)) (tgN 3) Lp_law_2) (seqF (forF (dIts rng1 (dCons (dCall (g1 lenD) (dCons (dVar 1) dNil)) dNil)) (tgN 5) Lp_law_4) (retF (dC (.bl true))))))))))))
def F_law : List D → Res D := runF 10 false Fb_law
end
end Lk
end S_P_data
section S_MM_pa
set_option Elab.async false
set_option linter.all false
set_option maxHeartbeats 2000000
set_option maxRecDepth 100000
namespace Lk
open PySem L2 Dx
local macro_rules
  | `(tactic| array_get_dec) => `(tactic| repeat (first
    | ((with_reducible apply Dx.rs_asSJ); · (first | omega | (simp only [List.length_append, List.length_cons, List.length_nil, List.length_map, List.length_range, List.length_replicate, List.length_reverse, List.length_take, List.length_drop]; omega)))
    | with_reducible refine Dx.rs_c ?_
    | with_reducible refine Dx.rs_op ?_
    | with_reducible refine Dx.rs_str ?_
    | with_reducible refine Dx.rs_asS ?_
    | with_reducible refine Dx.rs_un ?_
    | with_reducible refine Dx.rs_nil ?_
    | with_reducible refine Dx.rs_cons ?_
    | with_reducible refine Dx.rs_call ?_
    | with_reducible refine Dx.rs_T ?_
    | with_reducible refine Dx.rs_asB ?_
    | with_reducible refine Dx.rs_asI ?_
    | with_reducible refine Dx.rs_not ?_
    | with_reducible refine Dx.rs_and ?_
    | with_reducible refine Dx.rs_or ?_
    | with_reducible refine Dx.rs_andV ?_
    | with_reducible refine Dx.rs_orV ?_
    | with_reducible refine Dx.rs_notV ?_
    | with_reducible refine Dx.rs_chain ?_
    | with_reducible refine Dx.rs_noP ?_
    | with_reducible refine Dx.rs_part ?_
    | with_reducible refine Dx.rs_sl ?_
    | with_reducible refine Dx.rs_it ?_
    | with_reducible refine Dx.rs_its ?_
    | with_reducible refine Dx.rs_yes ?_
    | with_reducible refine Dx.rs_meth ?_
    | with_reducible refine Dx.rs_tru ?_
    | with_reducible refine Dx.rs_truB ?_
    | with_reducible refine Dx.rs_truI ?_
    | with_reducible refine Dx.rs_truL ?_
    | with_reducible refine Dx.rs_truT ?_
    | with_reducible refine Dx.rs_truN ?_
    | with_reducible refine Dx.rs_ifx ?_
    | with_reducible refine Dx.rs_add ?_
    | with_reducible refine Dx.rs_sub ?_
    | with_reducible refine Dx.rs_neg ?_
    | with_reducible refine Dx.rs_eqI ?_
    | with_reducible refine Dx.rs_neI ?_
    | with_reducible refine Dx.rs_eqS ?_
    | with_reducible refine Dx.rs_neS ?_
    | with_reducible refine Dx.rs_eqB ?_
    | with_reducible refine Dx.rs_neB ?_
    | with_reducible refine Dx.rs_lt ?_
    | with_reducible refine Dx.rs_le ?_
    | with_reducible refine Dx.rs_gt ?_
    | with_reducible refine Dx.rs_ge ?_
    | with_reducible refine Dx.rs_is ?_
    | with_reducible refine Dx.rs_isn ?_
    | with_reducible refine Dx.rs_inS ?_
    | with_reducible refine Dx.rs_ninS ?_
    | with_reducible refine Dx.rs_lenL ?_
    | with_reducible refine Dx.rs_lenF ?_
    | with_reducible refine Dx.rs_lenT ?_
    | with_reducible refine Dx.rs_int ?_
    | with_reducible refine Dx.rs_intB ?_
    | with_reducible refine Dx.rs_abs ?_
    | with_reducible refine Dx.rs_listL ?_
    | with_reducible refine Dx.rs_listT ?_
    | with_reducible refine Dx.rs_tupL ?_
    | with_reducible refine Dx.rs_tupT ?_
    | with_reducible refine Dx.rs_slL ?_
    | with_reducible refine Dx.rs_slO ?_
    | with_reducible refine Dx.rs_slT ?_
    | with_reducible refine Dx.rs_itsL ?_
    | with_reducible refine Dx.rs_itsT ?_
    | with_reducible refine Dx.rs_itsS ?_
    | with_reducible refine Dx.rs_enL ?_
    | with_reducible refine Dx.rs_enT ?_
    | with_reducible refine Dx.rs_enS ?_
    | with_reducible refine Dx.rs_ints ?_
    | with_reducible refine Dx.rs_sortI ?_
    | with_reducible refine Dx.rs_sum ?_
    | with_reducible refine Dx.rs_g2 ?_
    | with_reducible refine Dx.rs_all ?_
    | with_reducible refine Dx.rs_disp ?_
    | with_reducible refine Dx.rs_pnil ?_
    | with_reducible refine Dx.rs_pcons ?_
    | with_reducible refine Dx.rs_jnil ?_
    | with_reducible refine Dx.rs_jcons ?_
    | with_reducible refine Dx.rs_dJoin ?_
    | with_reducible refine Dx.rs_ord ?_
    | with_reducible refine Dx.rs_leS ?_
    | with_reducible refine Dx.rs_inKI ?_
    | with_reducible refine Dx.rs_inI ?_
    | with_reducible refine Dx.rs_ninI ?_
    | with_reducible refine Dx.rs_inTk ?_
    | with_reducible refine Dx.rs_getET ?_
    | with_reducible refine Dx.rs_dD0 ?_
    | with_reducible refine Dx.rs_listTk ?_
    | with_reducible refine Dx.rs_lenTk ?_
    | with_reducible refine Dx.rs_itTk ?_
    | with_reducible refine Dx.rs_end ?_
    | with_reducible refine Dx.rs_start ?_
    | with_reducible refine Dx.rs_star ?_
    | with_reducible refine Dx.rs_itemsL ?_
    | with_reducible refine Dx.rs_itemsT ?_
    | with_reducible refine Dx.rs_zipL ?_
    | with_reducible refine Dx.rs_zipS ?_
    | with_reducible refine Dx.rs_isi_non_bool ?_
    | with_reducible refine Dx.rs_isi_non_int ?_
    | with_reducible refine Dx.rs_isi_non_str ?_
    | with_reducible refine Dx.rs_isi_non_tuple ?_
    | with_reducible refine Dx.rs_isi_non_list ?_
    | with_reducible refine Dx.rs_isi_bl_bool ?_
    | with_reducible refine Dx.rs_isi_bl_int ?_
    | with_reducible refine Dx.rs_isi_bl_str ?_
    | with_reducible refine Dx.rs_isi_bl_tuple ?_
    | with_reducible refine Dx.rs_isi_bl_list ?_
    | with_reducible refine Dx.rs_isi_int_bool ?_
    | with_reducible refine Dx.rs_isi_int_int ?_
    | with_reducible refine Dx.rs_isi_int_str ?_
    | with_reducible refine Dx.rs_isi_int_tuple ?_
    | with_reducible refine Dx.rs_isi_int_list ?_
    | with_reducible refine Dx.rs_isi_str_bool ?_
    | with_reducible refine Dx.rs_isi_str_int ?_
    | with_reducible refine Dx.rs_isi_str_str ?_
    | with_reducible refine Dx.rs_isi_str_tuple ?_
    | with_reducible refine Dx.rs_isi_str_list ?_
    | with_reducible refine Dx.rs_isi_lst_bool ?_
    | with_reducible refine Dx.rs_isi_lst_int ?_
    | with_reducible refine Dx.rs_isi_lst_str ?_
    | with_reducible refine Dx.rs_isi_lst_tuple ?_
    | with_reducible refine Dx.rs_isi_lst_list ?_
    | with_reducible refine Dx.rs_isi_tup_bool ?_
    | with_reducible refine Dx.rs_isi_tup_int ?_
    | with_reducible refine Dx.rs_isi_tup_str ?_
    | with_reducible refine Dx.rs_isi_tup_tuple ?_
    | with_reducible refine Dx.rs_isi_tup_list ?_
    | with_reducible refine Dx.ss_nx ?_
    | with_reducible refine Dx.ss_bk ?_
    | with_reducible refine Dx.ss_ct ?_
    | with_reducible refine Dx.ss_seq ?_
    | with_reducible refine Dx.ss_set ?_
    | with_reducible refine Dx.ss_ret ?_
    | with_reducible refine Dx.ss_drop ?_
    | with_reducible refine Dx.ss_if ?_
    | with_reducible refine Dx.ss_par ?_
    | with_reducible refine Dx.ss_par3 ?_
    | with_reducible refine Dx.ss_aug ?_
    | ((with_reducible apply Dx.rs_var); · (rfl))
    | ((with_reducible apply Dx.rs_ixL); · (first | rfl | assumption))
    | ((with_reducible apply Dx.rs_ixF); · (first | rfl | assumption))
    | ((with_reducible apply Dx.rs_ixT); · (first | rfl | assumption))
    | ((with_reducible apply Dx.rs_fld); · (rfl))
    | ((with_reducible apply Dx.rs_isObj); · (decide))
    | ((with_reducible apply Dx.rs_mod); · (omega))
    | ((with_reducible apply Dx.rs_fdiv); · (omega))
    | ((with_reducible apply Dx.rs_addS); · ((first | exact Nat.le_of_ble_eq_true rfl | assumption | (refine Nat.le_trans (m := 100000) ?_ Dx.sz5; first | omega | (simp only [List.length_append, List.length_cons, List.length_nil, List.length_map, List.length_range, List.length_replicate, List.length_reverse, List.length_take, List.length_drop]; omega)))))
    | ((with_reducible apply Dx.rs_addT); · ((first | exact Nat.le_of_ble_eq_true rfl | assumption | (refine Nat.le_trans (m := 100000) ?_ Dx.sz5; first | omega | (simp only [List.length_append, List.length_cons, List.length_nil, List.length_map, List.length_range, List.length_replicate, List.length_reverse, List.length_take, List.length_drop]; omega)))))
    | ((with_reducible apply Dx.rs_addLL); · ((first | exact Nat.le_of_ble_eq_true rfl | assumption | (refine Nat.le_trans (m := 100000) ?_ Dx.sz5; first | omega | (simp only [List.length_append, List.length_cons, List.length_nil, List.length_map, List.length_range, List.length_replicate, List.length_reverse, List.length_take, List.length_drop]; omega)))))
    | ((with_reducible apply Dx.rs_addLO); · ((first | exact Nat.le_of_ble_eq_true rfl | assumption | (refine Nat.le_trans (m := 100000) ?_ Dx.sz5; first | omega | (simp only [List.length_append, List.length_cons, List.length_nil, List.length_map, List.length_range, List.length_replicate, List.length_reverse, List.length_take, List.length_drop]; omega)))))
    | ((with_reducible apply Dx.rs_lenS); · ((first | exact Nat.le_of_ble_eq_true rfl | assumption | (refine Nat.le_trans (m := 100000) ?_ Dx.sz5; first | omega | (simp only [List.length_append, List.length_cons, List.length_nil, List.length_map, List.length_range, List.length_replicate, List.length_reverse, List.length_take, List.length_drop]; omega)))))
    | ((with_reducible apply Dx.rs_slS); · ((first | exact Nat.le_of_ble_eq_true rfl | assumption | (refine Nat.le_trans (m := 100000) ?_ Dx.sz5; first | omega | (simp only [List.length_append, List.length_cons, List.length_nil, List.length_map, List.length_range, List.length_replicate, List.length_reverse, List.length_take, List.length_drop]; omega)))))
    | ((with_reducible apply Dx.rs_mul); · ((first | exact Or.inl (Dx.small_of (by omega) (by omega)) | exact Or.inr (Dx.small_of (by omega) (by omega)))))
    | ((with_reducible apply Dx.rs_strI); · (omega))
    | ((with_reducible apply Dx.rs_fmtI); · (omega))
    | ((with_reducible apply Dx.rs_fmtS); · ((first | exact Nat.le_of_ble_eq_true rfl | assumption | (refine Nat.le_trans (m := 100000) ?_ Dx.sz5; first | omega | (simp only [List.length_append, List.length_cons, List.length_nil, List.length_map, List.length_range, List.length_replicate, List.length_reverse, List.length_take, List.length_drop]; omega)))))
    | ((with_reducible apply Dx.rs_split); · (refine And.intro (by decide) ?_; (first | exact Nat.le_of_ble_eq_true rfl | assumption | (refine Nat.le_trans (m := 100000) ?_ Dx.sz5; first | omega | (simp only [List.length_append, List.length_cons, List.length_nil, List.length_map, List.length_range, List.length_replicate, List.length_reverse, List.length_take, List.length_drop]; omega)))))
    | ((with_reducible apply Dx.ss_app); · (rfl))
    | (with_reducible refine Dx.rs_tup ?_)
    | (with_reducible refine Dx.rs_lst ?_)
    | ((with_reducible refine And.intro (a := List.length _ ≤ PySem.sizeLine) ?_ ?_); · ((first | exact Nat.le_of_ble_eq_true rfl | assumption | (refine Nat.le_trans (m := 100000) ?_ Dx.sz5; first | omega | (simp only [List.length_append, List.length_cons, List.length_nil, List.length_map, List.length_range, List.length_replicate, List.length_reverse, List.length_take, List.length_drop]; omega)))))
    | ((with_reducible refine And.intro (a := List.length _ < PySem.sizeLine) ?_ ?_); · (first | exact Nat.le_of_ble_eq_true rfl | (refine Nat.lt_of_lt_of_le (m := 100000) ?_ Dx.sz5; first | omega | (simp only [List.length_append, List.length_cons, List.length_nil, List.length_map, List.length_range, List.length_replicate, List.length_reverse, List.length_take, List.length_drop]; omega))))))
local macro_rules
  | `(tactic| array_mem_dec) => `(tactic| repeat (first
    | with_reducible refine Dx.ss_ifo ?_
    | with_reducible refine Dx.ss_ifa ?_
    | with_reducible refine Dx.rs_andc ?_
    | with_reducible refine Dx.rs_orc ?_
    | with_reducible refine Dx.rs_andVc ?_
    | with_reducible refine Dx.rs_orVc ?_
    | ((with_reducible apply Dx.rs_asSJ); · (first | omega | (simp only [List.length_append, List.length_cons, List.length_nil, List.length_map, List.length_range, List.length_replicate, List.length_reverse, List.length_take, List.length_drop]; omega)))
    | with_reducible refine Dx.rs_c ?_
    | with_reducible refine Dx.rs_op ?_
    | with_reducible refine Dx.rs_str ?_
    | with_reducible refine Dx.rs_asS ?_
    | with_reducible refine Dx.rs_un ?_
    | with_reducible refine Dx.rs_nil ?_
    | with_reducible refine Dx.rs_cons ?_
    | with_reducible refine Dx.rs_call ?_
    | with_reducible refine Dx.rs_T ?_
    | with_reducible refine Dx.rs_asB ?_
    | with_reducible refine Dx.rs_asI ?_
    | with_reducible refine Dx.rs_not ?_
    | with_reducible refine Dx.rs_notV ?_
    | with_reducible refine Dx.rs_chain ?_
    | with_reducible refine Dx.rs_noP ?_
    | with_reducible refine Dx.rs_part ?_
    | with_reducible refine Dx.rs_sl ?_
    | with_reducible refine Dx.rs_it ?_
    | with_reducible refine Dx.rs_its ?_
    | with_reducible refine Dx.rs_yes ?_
    | with_reducible refine Dx.rs_meth ?_
    | with_reducible refine Dx.rs_tru ?_
    | with_reducible refine Dx.rs_truB ?_
    | with_reducible refine Dx.rs_truI ?_
    | with_reducible refine Dx.rs_truL ?_
    | with_reducible refine Dx.rs_truT ?_
    | with_reducible refine Dx.rs_truN ?_
    | with_reducible refine Dx.rs_add ?_
    | with_reducible refine Dx.rs_sub ?_
    | with_reducible refine Dx.rs_neg ?_
    | with_reducible refine Dx.rs_eqI ?_
    | with_reducible refine Dx.rs_neI ?_
    | with_reducible refine Dx.rs_eqS ?_
    | with_reducible refine Dx.rs_neS ?_
    | with_reducible refine Dx.rs_eqB ?_
    | with_reducible refine Dx.rs_neB ?_
    | with_reducible refine Dx.rs_lt ?_
    | with_reducible refine Dx.rs_le ?_
    | with_reducible refine Dx.rs_gt ?_
    | with_reducible refine Dx.rs_ge ?_
    | with_reducible refine Dx.rs_is ?_
    | with_reducible refine Dx.rs_isn ?_
    | with_reducible refine Dx.rs_inS ?_
    | with_reducible refine Dx.rs_ninS ?_
    | with_reducible refine Dx.rs_lenL ?_
    | with_reducible refine Dx.rs_lenF ?_
    | with_reducible refine Dx.rs_lenT ?_
    | with_reducible refine Dx.rs_int ?_
    | with_reducible refine Dx.rs_intB ?_
    | with_reducible refine Dx.rs_abs ?_
    | with_reducible refine Dx.rs_listL ?_
    | with_reducible refine Dx.rs_listT ?_
    | with_reducible refine Dx.rs_tupL ?_
    | with_reducible refine Dx.rs_tupT ?_
    | with_reducible refine Dx.rs_slL ?_
    | with_reducible refine Dx.rs_slO ?_
    | with_reducible refine Dx.rs_slT ?_
    | with_reducible refine Dx.rs_itsL ?_
    | with_reducible refine Dx.rs_itsT ?_
    | with_reducible refine Dx.rs_itsS ?_
    | with_reducible refine Dx.rs_enL ?_
    | with_reducible refine Dx.rs_enT ?_
    | with_reducible refine Dx.rs_enS ?_
    | with_reducible refine Dx.rs_ints ?_
    | with_reducible refine Dx.rs_sortI ?_
    | with_reducible refine Dx.rs_sum ?_
    | with_reducible refine Dx.rs_g2 ?_
    | with_reducible refine Dx.rs_all ?_
    | with_reducible refine Dx.rs_disp ?_
    | with_reducible refine Dx.rs_pnil ?_
    | with_reducible refine Dx.rs_pcons ?_
    | with_reducible refine Dx.rs_jnil ?_
    | with_reducible refine Dx.rs_jcons ?_
    | with_reducible refine Dx.rs_dJoin ?_
    | with_reducible refine Dx.rs_ord ?_
    | with_reducible refine Dx.rs_leS ?_
    | with_reducible refine Dx.rs_inKI ?_
    | with_reducible refine Dx.rs_inI ?_
    | with_reducible refine Dx.rs_ninI ?_
    | with_reducible refine Dx.rs_inTk ?_
    | with_reducible refine Dx.rs_getET ?_
    | with_reducible refine Dx.rs_dD0 ?_
    | with_reducible refine Dx.rs_listTk ?_
    | with_reducible refine Dx.rs_lenTk ?_
    | with_reducible refine Dx.rs_itTk ?_
    | with_reducible refine Dx.rs_end ?_
    | with_reducible refine Dx.rs_start ?_
    | with_reducible refine Dx.rs_star ?_
    | with_reducible refine Dx.rs_itemsL ?_
    | with_reducible refine Dx.rs_itemsT ?_
    | with_reducible refine Dx.rs_zipL ?_
    | with_reducible refine Dx.rs_zipS ?_
    | with_reducible refine Dx.rs_isi_non_bool ?_
    | with_reducible refine Dx.rs_isi_non_int ?_
    | with_reducible refine Dx.rs_isi_non_str ?_
    | with_reducible refine Dx.rs_isi_non_tuple ?_
    | with_reducible refine Dx.rs_isi_non_list ?_
    | with_reducible refine Dx.rs_isi_bl_bool ?_
    | with_reducible refine Dx.rs_isi_bl_int ?_
    | with_reducible refine Dx.rs_isi_bl_str ?_
    | with_reducible refine Dx.rs_isi_bl_tuple ?_
    | with_reducible refine Dx.rs_isi_bl_list ?_
    | with_reducible refine Dx.rs_isi_int_bool ?_
    | with_reducible refine Dx.rs_isi_int_int ?_
    | with_reducible refine Dx.rs_isi_int_str ?_
    | with_reducible refine Dx.rs_isi_int_tuple ?_
    | with_reducible refine Dx.rs_isi_int_list ?_
    | with_reducible refine Dx.rs_isi_str_bool ?_
    | with_reducible refine Dx.rs_isi_str_int ?_
    | with_reducible refine Dx.rs_isi_str_str ?_
    | with_reducible refine Dx.rs_isi_str_tuple ?_
    | with_reducible refine Dx.rs_isi_str_list ?_
    | with_reducible refine Dx.rs_isi_lst_bool ?_
    | with_reducible refine Dx.rs_isi_lst_int ?_
    | with_reducible refine Dx.rs_isi_lst_str ?_
    | with_reducible refine Dx.rs_isi_lst_tuple ?_
    | with_reducible refine Dx.rs_isi_lst_list ?_
    | with_reducible refine Dx.rs_isi_tup_bool ?_
    | with_reducible refine Dx.rs_isi_tup_int ?_
    | with_reducible refine Dx.rs_isi_tup_str ?_
    | with_reducible refine Dx.rs_isi_tup_tuple ?_
    | with_reducible refine Dx.rs_isi_tup_list ?_
    | with_reducible refine Dx.ss_nx ?_
    | with_reducible refine Dx.ss_bk ?_
    | with_reducible refine Dx.ss_ct ?_
    | with_reducible refine Dx.ss_seq ?_
    | with_reducible refine Dx.ss_set ?_
    | with_reducible refine Dx.ss_ret ?_
    | with_reducible refine Dx.ss_drop ?_
    | with_reducible refine Dx.ss_if ?_
    | with_reducible refine Dx.ss_par ?_
    | with_reducible refine Dx.ss_par3 ?_
    | with_reducible refine Dx.ss_aug ?_
    | ((with_reducible apply Dx.rs_var); · (rfl))
    | ((with_reducible apply Dx.rs_ixL); · (first | rfl | assumption))
    | ((with_reducible apply Dx.rs_ixF); · (first | rfl | assumption))
    | ((with_reducible apply Dx.rs_ixT); · (first | rfl | assumption))
    | ((with_reducible apply Dx.rs_fld); · (rfl))
    | ((with_reducible apply Dx.rs_isObj); · (decide))
    | ((with_reducible apply Dx.rs_mod); · (omega))
    | ((with_reducible apply Dx.rs_fdiv); · (omega))
    | ((with_reducible apply Dx.rs_addS); · ((first | exact Nat.le_of_ble_eq_true rfl | assumption | (refine Nat.le_trans (m := 100000) ?_ Dx.sz5; first | omega | (simp only [List.length_append, List.length_cons, List.length_nil, List.length_map, List.length_range, List.length_replicate, List.length_reverse, List.length_take, List.length_drop]; omega)))))
    | ((with_reducible apply Dx.rs_addT); · ((first | exact Nat.le_of_ble_eq_true rfl | assumption | (refine Nat.le_trans (m := 100000) ?_ Dx.sz5; first | omega | (simp only [List.length_append, List.length_cons, List.length_nil, List.length_map, List.length_range, List.length_replicate, List.length_reverse, List.length_take, List.length_drop]; omega)))))
    | ((with_reducible apply Dx.rs_addLL); · ((first | exact Nat.le_of_ble_eq_true rfl | assumption | (refine Nat.le_trans (m := 100000) ?_ Dx.sz5; first | omega | (simp only [List.length_append, List.length_cons, List.length_nil, List.length_map, List.length_range, List.length_replicate, List.length_reverse, List.length_take, List.length_drop]; omega)))))
    | ((with_reducible apply Dx.rs_addLO); · ((first | exact Nat.le_of_ble_eq_true rfl | assumption | (refine Nat.le_trans (m := 100000) ?_ Dx.sz5; first | omega | (simp only [List.length_append, List.length_cons, List.length_nil, List.length_map, List.length_range, List.length_replicate, List.length_reverse, List.length_take, List.length_drop]; omega)))))
    | ((with_reducible apply Dx.rs_lenS); · ((first | exact Nat.le_of_ble_eq_true rfl | assumption | (refine Nat.le_trans (m := 100000) ?_ Dx.sz5; first | omega | (simp only [List.length_append, List.length_cons, List.length_nil, List.length_map, List.length_range, List.length_replicate, List.length_reverse, List.length_take, List.length_drop]; omega)))))
    | ((with_reducible apply Dx.rs_slS); · ((first | exact Nat.le_of_ble_eq_true rfl | assumption | (refine Nat.le_trans (m := 100000) ?_ Dx.sz5; first | omega | (simp only [List.length_append, List.length_cons, List.length_nil, List.length_map, List.length_range, List.length_replicate, List.length_reverse, List.length_take, List.length_drop]; omega)))))
    | ((with_reducible apply Dx.rs_mul); · ((first | exact Or.inl (Dx.small_of (by omega) (by omega)) | exact Or.inr (Dx.small_of (by omega) (by omega)))))
    | ((with_reducible apply Dx.rs_strI); · (omega))
    | ((with_reducible apply Dx.rs_fmtI); · (omega))
    | ((with_reducible apply Dx.rs_fmtS); · ((first | exact Nat.le_of_ble_eq_true rfl | assumption | (refine Nat.le_trans (m := 100000) ?_ Dx.sz5; first | omega | (simp only [List.length_append, List.length_cons, List.length_nil, List.length_map, List.length_range, List.length_replicate, List.length_reverse, List.length_take, List.length_drop]; omega)))))
    | ((with_reducible apply Dx.rs_split); · (refine And.intro (by decide) ?_; (first | exact Nat.le_of_ble_eq_true rfl | assumption | (refine Nat.le_trans (m := 100000) ?_ Dx.sz5; first | omega | (simp only [List.length_append, List.length_cons, List.length_nil, List.length_map, List.length_range, List.length_replicate, List.length_reverse, List.length_take, List.length_drop]; omega)))))
    | ((with_reducible apply Dx.ss_app); · (rfl))
    | (with_reducible refine Dx.rs_tup ?_)
    | (with_reducible refine Dx.rs_lst ?_)
    | ((with_reducible refine And.intro (a := List.length _ ≤ PySem.sizeLine) ?_ ?_); · ((first | exact Nat.le_of_ble_eq_true rfl | assumption | (refine Nat.le_trans (m := 100000) ?_ Dx.sz5; first | omega | (simp only [List.length_append, List.length_cons, List.length_nil, List.length_map, List.length_range, List.length_replicate, List.length_reverse, List.length_take, List.length_drop]; omega)))))
    | ((with_reducible refine And.intro (a := List.length _ < PySem.sizeLine) ?_ ?_); · (first | exact Nat.le_of_ble_eq_true rfl | (refine Nat.lt_of_lt_of_le (m := 100000) ?_ Dx.sz5; first | omega | (simp only [List.length_append, List.length_cons, List.length_nil, List.length_map, List.length_range, List.length_replicate, List.length_reverse, List.length_take, List.length_drop]; omega))))
    | ((refine And.intro (fun h => absurd h ?_) (fun _ => ?_)); · (first | exact Bool.false_ne_true | (simp; done) | (simp; omega)))
    | ((refine And.intro (fun _ => ?_) (fun h => absurd h ?_)); rotate_left; · (first | exact (fun h => Bool.false_ne_true h.symm) | (simp; done) | (simp; omega)))))
local macro_rules
  | `(tactic| sizeOf_list_dec) => `(tactic| repeat (first
    | ((with_reducible apply Dx.rs_asSJ); · (first | omega | (simp only [List.length_append, List.length_cons, List.length_nil, List.length_map, List.length_range, List.length_replicate, List.length_reverse, List.length_take, List.length_drop]; omega)))
    | with_reducible refine Dx.rs_c ?_
    | with_reducible refine Dx.rs_op ?_
    | with_reducible refine Dx.rs_str ?_
    | with_reducible refine Dx.rs_asS ?_
    | with_reducible refine Dx.rs_un ?_
    | with_reducible refine Dx.rs_nil ?_
    | with_reducible refine Dx.rs_cons ?_
    | with_reducible refine Dx.rs_call ?_
    | with_reducible refine Dx.rs_T ?_
    | with_reducible refine Dx.rs_asB ?_
    | with_reducible refine Dx.rs_asI ?_
    | with_reducible refine Dx.rs_not ?_
    | with_reducible refine Dx.rs_and ?_
    | with_reducible refine Dx.rs_or ?_
    | with_reducible refine Dx.rs_andV ?_
    | with_reducible refine Dx.rs_orV ?_
    | with_reducible refine Dx.rs_notV ?_
    | with_reducible refine Dx.rs_chain ?_
    | with_reducible refine Dx.rs_noP ?_
    | with_reducible refine Dx.rs_part ?_
    | with_reducible refine Dx.rs_sl ?_
    | with_reducible refine Dx.rs_it ?_
    | with_reducible refine Dx.rs_its ?_
    | with_reducible refine Dx.rs_yes ?_
    | with_reducible refine Dx.rs_meth ?_
    | with_reducible refine Dx.rs_tru ?_
    | with_reducible refine Dx.rs_truB ?_
    | with_reducible refine Dx.rs_truI ?_
    | with_reducible refine Dx.rs_truL ?_
    | with_reducible refine Dx.rs_truT ?_
    | with_reducible refine Dx.rs_truN ?_
    | with_reducible refine Dx.rs_ifx ?_
    | with_reducible refine Dx.rs_add ?_
    | with_reducible refine Dx.rs_sub ?_
    | with_reducible refine Dx.rs_neg ?_
    | with_reducible refine Dx.rs_eqI ?_
    | with_reducible refine Dx.rs_neI ?_
    | with_reducible refine Dx.rs_eqS ?_
    | with_reducible refine Dx.rs_neS ?_
    | with_reducible refine Dx.rs_eqB ?_
    | with_reducible refine Dx.rs_neB ?_
    | with_reducible refine Dx.rs_lt ?_
    | with_reducible refine Dx.rs_le ?_
    | with_reducible refine Dx.rs_gt ?_
    | with_reducible refine Dx.rs_ge ?_
    | with_reducible refine Dx.rs_is ?_
    | with_reducible refine Dx.rs_isn ?_
    | with_reducible refine Dx.rs_inS ?_
    | with_reducible refine Dx.rs_ninS ?_
    | with_reducible refine Dx.rs_lenL ?_
    | with_reducible refine Dx.rs_lenF ?_
    | with_reducible refine Dx.rs_lenT ?_
    | with_reducible refine Dx.rs_int ?_
    | with_reducible refine Dx.rs_intB ?_
    | with_reducible refine Dx.rs_abs ?_
    | with_reducible refine Dx.rs_listL ?_
    | with_reducible refine Dx.rs_listT ?_
    | with_reducible refine Dx.rs_tupL ?_
    | with_reducible refine Dx.rs_tupT ?_
    | with_reducible refine Dx.rs_slL ?_
    | with_reducible refine Dx.rs_slO ?_
    | with_reducible refine Dx.rs_slT ?_
    | with_reducible refine Dx.rs_itsL ?_
    | with_reducible refine Dx.rs_itsT ?_
    | with_reducible refine Dx.rs_itsS ?_
    | with_reducible refine Dx.rs_enL ?_
    | with_reducible refine Dx.rs_enT ?_
    | with_reducible refine Dx.rs_enS ?_
    | with_reducible refine Dx.rs_ints ?_
    | with_reducible refine Dx.rs_sortI ?_
    | with_reducible refine Dx.rs_sum ?_
    | with_reducible refine Dx.rs_g2 ?_
    | with_reducible refine Dx.rs_all ?_
    | with_reducible refine Dx.rs_disp ?_
    | with_reducible refine Dx.rs_pnil ?_
    | with_reducible refine Dx.rs_pcons ?_
    | with_reducible refine Dx.rs_jnil ?_
    | with_reducible refine Dx.rs_jcons ?_
    | with_reducible refine Dx.rs_dJoin ?_
    | with_reducible refine Dx.rs_ord ?_
    | with_reducible refine Dx.rs_leS ?_
    | with_reducible refine Dx.rs_inKI ?_
    | with_reducible refine Dx.rs_inI ?_
    | with_reducible refine Dx.rs_ninI ?_
    | with_reducible refine Dx.rs_inTk ?_
    | with_reducible refine Dx.rs_getET ?_
    | with_reducible refine Dx.rs_dD0 ?_
    | with_reducible refine Dx.rs_listTk ?_
    | with_reducible refine Dx.rs_lenTk ?_
    | with_reducible refine Dx.rs_itTk ?_
    | with_reducible refine Dx.rs_end ?_
    | with_reducible refine Dx.rs_start ?_
    | with_reducible refine Dx.rs_star ?_
    | with_reducible refine Dx.rs_itemsL ?_
    | with_reducible refine Dx.rs_itemsT ?_
    | with_reducible refine Dx.rs_zipL ?_
    | with_reducible refine Dx.rs_zipS ?_
    | with_reducible refine Dx.rs_isi_non_bool ?_
    | with_reducible refine Dx.rs_isi_non_int ?_
    | with_reducible refine Dx.rs_isi_non_str ?_
    | with_reducible refine Dx.rs_isi_non_tuple ?_
    | with_reducible refine Dx.rs_isi_non_list ?_
    | with_reducible refine Dx.rs_isi_bl_bool ?_
    | with_reducible refine Dx.rs_isi_bl_int ?_
    | with_reducible refine Dx.rs_isi_bl_str ?_
    | with_reducible refine Dx.rs_isi_bl_tuple ?_
    | with_reducible refine Dx.rs_isi_bl_list ?_
    | with_reducible refine Dx.rs_isi_int_bool ?_
    | with_reducible refine Dx.rs_isi_int_int ?_
    | with_reducible refine Dx.rs_isi_int_str ?_
    | with_reducible refine Dx.rs_isi_int_tuple ?_
    | with_reducible refine Dx.rs_isi_int_list ?_
    | with_reducible refine Dx.rs_isi_str_bool ?_
    | with_reducible refine Dx.rs_isi_str_int ?_
    | with_reducible refine Dx.rs_isi_str_str ?_
    | with_reducible refine Dx.rs_isi_str_tuple ?_
    | with_reducible refine Dx.rs_isi_str_list ?_
    | with_reducible refine Dx.rs_isi_lst_bool ?_
    | with_reducible refine Dx.rs_isi_lst_int ?_
    | with_reducible refine Dx.rs_isi_lst_str ?_
    | with_reducible refine Dx.rs_isi_lst_tuple ?_
    | with_reducible refine Dx.rs_isi_lst_list ?_
    | with_reducible refine Dx.rs_isi_tup_bool ?_
    | with_reducible refine Dx.rs_isi_tup_int ?_
    | with_reducible refine Dx.rs_isi_tup_str ?_
    | with_reducible refine Dx.rs_isi_tup_tuple ?_
    | with_reducible refine Dx.rs_isi_tup_list ?_
    | with_reducible refine Dx.ss_nx ?_
    | with_reducible refine Dx.ss_bk ?_
    | with_reducible refine Dx.ss_ct ?_
    | with_reducible refine Dx.ss_seq ?_
    | with_reducible refine Dx.ss_set ?_
    | with_reducible refine Dx.ss_ret ?_
    | with_reducible refine Dx.ss_drop ?_
    | with_reducible refine Dx.ss_if ?_
    | with_reducible refine Dx.ss_par ?_
    | with_reducible refine Dx.ss_par3 ?_
    | with_reducible refine Dx.ss_aug ?_
    | ((with_reducible apply Dx.rs_var); · (rfl))
    | ((with_reducible apply Dx.rs_ixL); · (first | rfl | assumption))
    | ((with_reducible apply Dx.rs_ixF); · (first | rfl | assumption))
    | ((with_reducible apply Dx.rs_ixT); · (first | rfl | assumption))
    | ((with_reducible apply Dx.rs_fld); · (rfl))
    | ((with_reducible apply Dx.rs_isObj); · (decide))
    | ((with_reducible apply Dx.rs_mod); · (omega))
    | ((with_reducible apply Dx.rs_fdiv); · (omega))
    | ((with_reducible apply Dx.rs_addS); · ((first | exact Nat.le_of_ble_eq_true rfl | assumption | (refine Nat.le_trans (m := 100000) ?_ Dx.sz5; first | omega | (simp only [List.length_append, List.length_cons, List.length_nil, List.length_map, List.length_range, List.length_replicate, List.length_reverse, List.length_take, List.length_drop]; omega)))))
    | ((with_reducible apply Dx.rs_addT); · ((first | exact Nat.le_of_ble_eq_true rfl | assumption | (refine Nat.le_trans (m := 100000) ?_ Dx.sz5; first | omega | (simp only [List.length_append, List.length_cons, List.length_nil, List.length_map, List.length_range, List.length_replicate, List.length_reverse, List.length_take, List.length_drop]; omega)))))
    | ((with_reducible apply Dx.rs_addLL); · ((first | exact Nat.le_of_ble_eq_true rfl | assumption | (refine Nat.le_trans (m := 100000) ?_ Dx.sz5; first | omega | (simp only [List.length_append, List.length_cons, List.length_nil, List.length_map, List.length_range, List.length_replicate, List.length_reverse, List.length_take, List.length_drop]; omega)))))
    | ((with_reducible apply Dx.rs_addLO); · ((first | exact Nat.le_of_ble_eq_true rfl | assumption | (refine Nat.le_trans (m := 100000) ?_ Dx.sz5; first | omega | (simp only [List.length_append, List.length_cons, List.length_nil, List.length_map, List.length_range, List.length_replicate, List.length_reverse, List.length_take, List.length_drop]; omega)))))
    | ((with_reducible apply Dx.rs_lenS); · ((first | exact Nat.le_of_ble_eq_true rfl | assumption | (refine Nat.le_trans (m := 100000) ?_ Dx.sz5; first | omega | (simp only [List.length_append, List.length_cons, List.length_nil, List.length_map, List.length_range, List.length_replicate, List.length_reverse, List.length_take, List.length_drop]; omega)))))
    | ((with_reducible apply Dx.rs_slS); · ((first | exact Nat.le_of_ble_eq_true rfl | assumption | (refine Nat.le_trans (m := 100000) ?_ Dx.sz5; first | omega | (simp only [List.length_append, List.length_cons, List.length_nil, List.length_map, List.length_range, List.length_replicate, List.length_reverse, List.length_take, List.length_drop]; omega)))))
    | ((with_reducible apply Dx.rs_mul); · ((first | exact Or.inl (Dx.small_of (by omega) (by omega)) | exact Or.inr (Dx.small_of (by omega) (by omega)))))
    | ((with_reducible apply Dx.rs_strI); · (omega))
    | ((with_reducible apply Dx.rs_fmtI); · (omega))
    | ((with_reducible apply Dx.rs_fmtS); · ((first | exact Nat.le_of_ble_eq_true rfl | assumption | (refine Nat.le_trans (m := 100000) ?_ Dx.sz5; first | omega | (simp only [List.length_append, List.length_cons, List.length_nil, List.length_map, List.length_range, List.length_replicate, List.length_reverse, List.length_take, List.length_drop]; omega)))))
    | ((with_reducible apply Dx.rs_split); · (refine And.intro (by decide) ?_; (first | exact Nat.le_of_ble_eq_true rfl | assumption | (refine Nat.le_trans (m := 100000) ?_ Dx.sz5; first | omega | (simp only [List.length_append, List.length_cons, List.length_nil, List.length_map, List.length_range, List.length_replicate, List.length_reverse, List.length_take, List.length_drop]; omega)))))
    | ((with_reducible apply Dx.ss_app); · (rfl))
    | (with_reducible refine Dx.rs_tup ?_)
    | (with_reducible refine Dx.rs_lst ?_)
    | ((with_reducible refine And.intro (a := List.length _ ≤ PySem.sizeLine) ?_ ?_); · ((first | exact Nat.le_of_ble_eq_true rfl | assumption | (refine Nat.le_trans (m := 100000) ?_ Dx.sz5; first | omega | (simp only [List.length_append, List.length_cons, List.length_nil, List.length_map, List.length_range, List.length_replicate, List.length_reverse, List.length_take, List.length_drop]; omega)))))
    | ((with_reducible refine And.intro (a := List.length _ < PySem.sizeLine) ?_ ?_); · (first | exact Nat.le_of_ble_eq_true rfl | (refine Nat.lt_of_lt_of_le (m := 100000) ?_ Dx.sz5; first | omega | (simp only [List.length_append, List.length_cons, List.length_nil, List.length_map, List.length_range, List.length_replicate, List.length_reverse, List.length_take, List.length_drop]; omega))))
    | ((refine And.intro (fun h => absurd h ?_) (fun _ => ?_)); · (first | exact Bool.false_ne_true | (simp; done) | (simp; omega)))
    | ((refine And.intro (fun _ => ?_) (fun h => absurd h ?_)); rotate_left; · (first | exact (fun h => Bool.false_ne_true h.symm) | (simp; done) | (simp; omega)))))
section
theorem cell_sp (ns : List Int) (k : Nat) (hk : k ≤ 1000) : Rs (F_l_cell [.fz (ns.map D.int), .int (k : Int)]) (fun d => ∃ z, d = .int z) nE := by
  refine rs_run ?_
  unfold Fb_l_cell
  array_get_dec
  refine ⟨fun h => ?_, fun h => ?_⟩
  · have h := of_decide_eq_true h
    rw [List.length_map] at h
    have hk : k < ns.length := by omega
    array_get_dec
    refine rs_ixF (d := .int ns[k]) (atI_nat (by rw [List.getElem?_map, List.getElem?_eq_getElem hk]; rfl)) ?_
    array_get_dec
    exact ⟨_, rfl⟩
  · array_get_dec
    exact ⟨_, rfl⟩
theorem row_sp (c : Int) (ls : List Int) (hl : ∀ l ∈ ls, 0 < l ∧ l < 4611686018427387904) (hn : ls.length < 10000) : Rs (F_l_row [.int c, iL ls]) (fun d => ∃ vs, d = iL vs ∧ Fit vs ls) nE := by
  refine rs_run ?_
  unfold Fb_l_row
  array_get_dec
  refine ⟨fun hc => ?_, fun hc => ?_⟩
  · array_get_dec
    refine ss_each D.int ls (fun i r => ∃ vs rest y, Fit vs (ls.take i) ∧ r = [some (.int c), some (iL ls), some (iL vs), some (.int rest), y, none, none]) ?_ ?_ ?_ ?_
    · array_get_dec; rfl
    · exact ⟨[], _, none, trivial, rfl⟩
    · rintro i l r hi ⟨vs, rest, y, hf, rfl⟩
      have hl := hl l (List.mem_of_getElem? hi)
      have hlen := hf.len
      rw [List.length_take] at hlen
      unfold Lp_l_row_1
      array_get_dec
      refine ⟨vs ++ [rest % l], rest / l, some (.int l), ?_, by simp [iL]⟩
      rw [take_snoc hi]
      exact hf.snoc (Int.emod_nonneg _ (by omega)) (Int.emod_lt_of_pos _ hl.1)
    · rintro r ⟨vs, rest, y, hf, rfl⟩
      rw [List.take_length] at hf
      array_get_dec
      exact ⟨vs, rfl, hf⟩
  · array_get_dec
    refine ss_rng ls.length (fun i r => ∃ vs y z, Fit vs (ls.take i) ∧ r = [some (.int c), some (iL ls), some (iL vs), none, none, y, z]) ?_ (by omega) ?_ ?_ ?_
    · array_get_dec
      rw [List.length_map]
    · exact ⟨[], none, none, trivial, rfl⟩
    · rintro k r hk ⟨vs, y, z, hf, rfl⟩
      have hlen := hf.len
      rw [List.length_take] at hlen
      have hg : ls[k]? = some ls[k] := List.getElem?_eq_getElem hk
      have hl := hl ls[k] (List.getElem_mem hk)
      generalize ls[k] = l at hg hl
      unfold Lp_l_row_2
      array_get_dec
      refine rs_ixL (d := .int l) (atI_nat (by rw [List.getElem?_map, hg]; rfl)) ?_
      array_get_dec
      refine ⟨vs ++ [_], _, _, ?_, by simp [iL]; exact ⟨rfl, rfl, rfl⟩⟩
      rw [take_snoc hg]
      exact hf.snoc (Int.emod_nonneg _ (by omega)) (Int.emod_lt_of_pos _ hl.1)
    · rintro r ⟨vs, y, z, hf, rfl⟩
      rw [List.take_length] at hf
      array_get_dec
      exact ⟨vs, rfl, hf⟩
theorem row_of (c : Int) (ls : List Int) {Q : D → Prop} {E : Str → List Str → List D → Prop} (hl : ∀ l ∈ ls, 0 < l ∧ l < 4611686018427387904) (hn : ls.length < 10000) (q : ∀ vs, Fit vs ls → Q (iL vs)) : Rs (F_l_row [.int c, iL ls]) Q E := (row_sp c ls hl hn).imp fun d ⟨vs, e, h⟩ => by subst e; exact q vs h
theorem ix_row {vs : List Int} {ls : List Int} {k : Nat} {l : Int} {i : Int} {Q : D → Prop} {E : Str → List Str → List D → Prop} (h : Fit vs ls) (hk : ls[k]? = some l) (hi : i = (k : Int)) (q : ∀ v, vs[k]? = some v → 0 ≤ v → v < l → Q (.int v)) : Rs (ixD (iL vs) (.int i)) Q E := by
  obtain ⟨v, h1, h2, h3⟩ := h.get hk
  subst hi
  exact rs_ixL (atI_nat (by rw [List.getElem?_map, h1]; rfl)) (q v h1 h2 h3)
def wD (w : List Nat) : D := .str (Sg w)
/-- a name -/
def Nm (w : List Nat) : Prop := 0 < w.length ∧ w.length ≤ 8 ∧ ∀ c ∈ w, 97 ≤ c ∧ c ≤ 122
def brk (c : Nat) : List Nat → Option (List Nat × List Nat)
  | [] => none
  | x :: r => if x = c then some ([], r) else match brk c r with
    | some (p, q) => some (x :: p, q)
    | none => none
theorem brk_none {c : Nat} : ∀ {a : List Nat}, brk c a = none → c ∉ a
  | [], _ => by simp
  | x :: r, h => by
    unfold brk at h
    by_cases hx : x = c
    · rw [if_pos hx] at h; cases h
    · rw [if_neg hx] at h
      cases hr : brk c r with
      | none =>
        have := brk_none hr
        simp [this, Ne.symm hx]
      | some y => rw [hr] at h; cases h
theorem brk_some {c : Nat} : ∀ {a p q : List Nat}, brk c a = some (p, q) → a = p ++ c :: q ∧ c ∉ p
  | [], _, _, h => by cases h
  | x :: r, p, q, h => by
    unfold brk at h
    by_cases hx : x = c
    · rw [if_pos hx] at h; cases h
      subst hx
      simp
    · rw [if_neg hx] at h
      cases hr : brk c r with
      | none => rw [hr] at h; cases h
      | some y =>
        obtain ⟨p', q'⟩ := y
        rw [hr] at h
        cases h
        obtain ⟨h1, h2⟩ := brk_some hr
        exact ⟨by rw [h1]; rfl, by simp [h2, Ne.symm hx]⟩
theorem part_brk {a : List Nat} {c : Nat} : PySem.Txt.partition (Sg a) (Sg [c]) = match brk c a with
    | none => (Sg a, Sg [], Sg [])
    | some (p, q) => (Sg p, Sg [c], Sg q) := by
  cases hb : brk c a with
  | none => exact TL.partition_none (y := Sg [c]) (S := []) rfl (brk_none hb)
  | some y =>
    obtain ⟨p, q⟩ := y
    obtain ⟨e, hp⟩ := brk_some hb
    have := TL.partition_app (y := Sg [c]) (S := []) rfl (a := Sg p) (b := Sg q) hp
    rw [ST_app, ST_app] at this
    subst e
    rw [show p ++ c :: q = p ++ [c] ++ q by simp]
    exact this
theorem rs_partB {a : List Nat} {c : Nat} {Q : D → Prop} {E : Str → List Str → List D → Prop} (h : a.length ≤ sizeLine) (q : Q (match brk c a with
    | none => .tup [wD a, wD [], wD []]
    | some (p, q) => .tup [wD p, wD [c], wD q])) : Rs (partD (.str (Sg a)) (.str (Sg [c]))) Q E := by
  unfold partD
  refine rs_guard ⟨rfl, by rw [ST_len]; exact h⟩ ?_
  rw [part_brk]
  cases hb : brk c a with
  | none => rw [hb] at q; exact q
  | some y => obtain ⟨p, r⟩ := y; rw [hb] at q; exact q
end
section
theorem low_mem {n : Nat} : n ∈ [97, 98, 99, 100, 101, 102, 103, 104, 105, 106, 107, 108, 109, 110, 111, 112, 113, 114, 115, 116, 117, 118, 119, 120, 121, 122] ↔ 97 ≤ n ∧ n ≤ 122 := by
  constructor
  · intro h
    have : ∀ m ∈ [97, 98, 99, 100, 101, 102, 103, 104, 105, 106, 107, 108, 109, 110, 111, 112, 113, 114, 115, 116, 117, 118, 119, 120, 121, 122], 97 ≤ m ∧ m ≤ 122 := by decide
    exact this n h
  · intro h
    have : ∀ m : Fin 26, 97 + m.1 ∈ [97, 98, 99, 100, 101, 102, 103, 104, 105, 106, 107, 108, 109, 110, 111, 112, 113, 114, 115, 116, 117, 118, 119, 120, 121, 122] := by decide
    have := this ⟨n - 97, by omega⟩
    rw [show 97 + (n - 97) = n by omega] at this
    exact this
def lowB (w : List Nat) : Bool := w.all fun c => decide (97 ≤ c ∧ c ≤ 122)
def nmB (w : List Nat) : Bool := decide (0 < w.length ∧ w.length ≤ 8) && lowB w
theorem lowB_iff {w : List Nat} : lowB w = true ↔ ∀ c ∈ w, 97 ≤ c ∧ c ≤ 122 := by
  unfold lowB
  rw [List.all_eq_true]
  exact ⟨fun h c hc => of_decide_eq_true (h c hc), fun h c hc => decide_eq_true (h c hc)⟩
theorem nmB_iff {w : List Nat} : nmB w = true ↔ Nm w := by
  unfold nmB Nm
  rw [Bool.and_eq_true, decide_eq_true_eq, lowB_iff, and_assoc]
theorem low_no {w : List Nat} {c i : Nat} (hc : w[i]? = some c) (h : ¬ (97 ≤ c ∧ c ≤ 122)) : lowB w = false := by
  cases e : lowB w with
  | false => rfl
  | true => exact absurd (lowB_iff.mp e c (List.mem_of_getElem? hc)) h
theorem is_name_eq {w : List Nat} (hl : w.length ≤ 10000) : F_is_name [wD w] = .ok (.bl (nmB w)) := Rs.eq (by
  refine rs_run ?_
  unfold Fb_is_name
  show Ss (seqF _ _ [some (wD w), none]) _ _ _ _ _
  refine ss_seq (ss_if (rs_not (rs_T (rs_chain (rs_c (rs_call (rs_cons (rs_var rfl (rs_nil (rs_lenS (Nat.le_trans (show _ ≤ 100000 by omega) sz5) (rs_le (rs_asB (rs_c (rs_le (rs_asB (rs_asB ⟨fun z => ?_, fun z => ?_⟩))))))))))))))))
  · refine ss_ret (rs_c ?_)
    show D.bl false = D.bl (nmB w)
    congr 1
    unfold nmB
    have : ¬ (0 < w.length ∧ w.length ≤ 8) := fun h => by
      have : (decide ((1 : Int) ≤ (w.length : Int)) && decide ((w.length : Int) ≤ 8)) = true := by
        rw [Bool.and_eq_true]; exact ⟨decide_eq_true (by omega), decide_eq_true (by omega)⟩
      rw [this] at z
      cases z
    rw [decide_eq_false this]
    rfl
  · have hw : 0 < w.length ∧ w.length ≤ 8 := by
      have z : (decide ((1 : Int) ≤ (w.length : Int)) && decide ((w.length : Int) ≤ 8)) = true := by
        cases h : (decide ((1 : Int) ≤ (w.length : Int)) && decide ((w.length : Int) ≤ 8)) with
        | true => rfl
        | false => rw [h] at z; cases z
      rw [Bool.and_eq_true] at z
      have h1 := of_decide_eq_true z.1
      have h2 := of_decide_eq_true z.2
      omega
    have hn : nmB w = lowB w := by unfold nmB; rw [decide_eq_true hw]; rfl
    rw [hn]
    refine ss_nx ?_
    refine ss_seq (ss_for (fun i r => (∃ x, r = [some (wD w), x]) ∧ ∀ c ∈ w.take i, 97 ≤ c ∧ c ≤ 122) (rs_it (rs_var rfl (rs_itsS ⟨⟨⟨_, rfl⟩, by simp⟩, ?_, ?_⟩))))
    · rintro i d r hd ⟨⟨x, rfl⟩, hi⟩
      rw [List.getElem?_map] at hd
      obtain ⟨c, hc, rfl⟩ := Option.map_eq_some_iff.mp hd
      refine ⟨_, rfl, ?_⟩
      unfold Lp_is_name_1
      refine ss_if (rs_T (rs_op (rs_var rfl (rs_c (rs_ninS (rs_asB ⟨fun z => ?_, fun z => ?_⟩))))))
      · refine ss_ret (rs_c ?_)
        rw [low_no hc fun h => by rw [decide_eq_true (low_mem.mpr h)] at z; cases z]
      · refine ss_nx ⟨⟨_, rfl⟩, fun c' hc' => ?_⟩
        rw [take_snoc hc] at hc'
        rcases List.mem_append.mp hc' with h | h
        · exact hi c' h
        · rw [List.mem_singleton.mp h]
          refine low_mem.mp ?_
          by_cases m : c ∈ [97, 98, 99, 100, 101, 102, 103, 104, 105, 106, 107, 108, 109, 110, 111, 112, 113, 114, 115, 116, 117, 118, 119, 120, 121, 122]
          · exact m
          · rw [decide_eq_false m] at z; cases z
    · rintro r ⟨⟨x, rfl⟩, hi⟩
      rw [List.length_map, List.take_length] at hi
      refine ss_ret (rs_c ?_)
      rw [lowB_iff.mpr hi])
abbrev TT := List Nat × List Nat
def okKd (w : List Nat) : Bool := decide (w = [42]) || nmB w
def testP (w : List Nat) : Option TT := match brk 46 w with
  | none => if okKd w = true then some (w, []) else none
  | some (p, q) => if (okKd p && nmB q) = true then some (p, q) else none
def ttD (t : TT) : D := .tup [wD t.1, wD t.2]
theorem brk_len {c : Nat} {a p q : List Nat} (h : brk c a = some (p, q)) : p.length ≤ a.length ∧ q.length ≤ a.length := by
  obtain ⟨e, _⟩ := brk_some h
  rw [e, List.length_append, List.length_cons]
  omega
theorem read_test_eq {w : List Nat} (hl : w.length ≤ 10000) : F_read_test [wD w] = .ok (match testP w with
    | none => .non
    | some t => ttD t) := Rs.eq (by
  refine rs_run ?_
  unfold Fb_read_test
  show Ss (seqF _ _ [some (wD w), none, none, none]) _ _ _ _ _
  unfold testP
  refine ss_seq (ss_asg (rs_str (rs_var rfl (rs_asS (rs_c (rs_partB (Nat.le_trans (show _ ≤ 100000 by omega) sz5) ?_))))))
  cases hb : brk 46 w with
  | none =>
    refine ⟨[some (wD w), some (wD w), some (wD []), some (wD [])], rfl, ?_⟩
    refine ss_seq (ss_if (rs_and (rs_T (rs_op (rs_var rfl (rs_c (rs_neS (rs_asB (rs_not (rs_T (rs_call (rs_cons (rs_var (d := wD w) rfl (rs_nil (Rs.of (is_name_eq hl) (rs_asB ⟨fun z => ?_, fun z => ?_⟩))))))))))))))))
    · have : okKd w = false := by
        unfold okKd
        cases h1 : decide (w = [42]) <;> cases h2 : nmB w <;> simp [h1, h2] at z ⊢
      dsimp only
      rw [this]
      exact ss_ret (rs_c rfl)
    · have : okKd w = true := by
        unfold okKd
        cases h1 : decide (w = [42]) <;> cases h2 : nmB w <;> simp [h1, h2] at z ⊢
      dsimp only
      rw [this]
      refine ss_nx (ss_seq (ss_if (rs_andc (rs_T (rs_op (rs_var rfl (rs_c (rs_neS (rs_asB ⟨fun z => by simp at z, fun _ => ⟨fun z => (by cases z), fun _ => ss_nx ?_⟩⟩)))))))))
      exact ss_ret (rs_tup (rs_cons (rs_var rfl (rs_cons (rs_var rfl (rs_nil ⟨Nat.le_of_ble_eq_true rfl, rfl⟩))))))
  | some y =>
    obtain ⟨p, q⟩ := y
    obtain ⟨hp, hq⟩ := brk_len hb
    dsimp only
    refine ⟨[some (wD w), some (wD p), some (wD [46]), some (wD q)], rfl, ?_⟩
    refine ss_seq (ss_if (rs_and (rs_T (rs_op (rs_var rfl (rs_c (rs_neS (rs_asB (rs_not (rs_T (rs_call (rs_cons (rs_var (d := wD p) rfl (rs_nil (Rs.of (is_name_eq (by omega)) (rs_asB ⟨fun z => ?_, fun z => ?_⟩))))))))))))))))
    · have : okKd p = false := by
        unfold okKd
        cases h1 : decide (p = [42]) <;> cases h2 : nmB p <;> simp [h1, h2] at z ⊢
      rw [this]
      exact ss_ret (rs_c rfl)
    · have : okKd p = true := by
        unfold okKd
        cases h1 : decide (p = [42]) <;> cases h2 : nmB p <;> simp [h1, h2] at z ⊢
      rw [this]
      refine ss_nx (ss_seq (ss_if (rs_andc (rs_T (rs_op (rs_var rfl (rs_c (rs_neS (rs_asB ⟨fun _ => rs_not (rs_T (rs_call (rs_cons (rs_var (d := wD q) rfl (rs_nil (Rs.of (is_name_eq (by omega)) (rs_asB ⟨fun z => ?_, fun z => ss_nx ?_⟩))))))), fun z => by simp at z⟩)))))))))
      · have : nmB q = false := by cases h : nmB q <;> simp [h] at z ⊢
        rw [this]
        exact ss_ret (rs_c rfl)
      · have : nmB q = true := by cases h : nmB q <;> simp [h] at z ⊢
        rw [this]
        exact ss_ret (rs_tup (rs_cons (rs_var rfl (rs_cons (rs_var rfl (rs_nil ⟨Nat.le_of_ble_eq_true rfl, rfl⟩)))))))
inductive Ln where
  | st | an | pa | el
  deriving DecidableEq
def lnW : Ln → List Nat
  | .st => [115, 116, 97, 114, 116]
  | .an => [97, 110, 99, 101, 115, 116, 111, 114]
  | .pa => [112, 97, 114, 101, 110, 116]
  | .el => [101, 108, 100, 101, 114]
theorem lnW_an {k : Ln} : lnW k = [97, 110, 99, 101, 115, 116, 111, 114] ↔ k = .an := by cases k <;> decide
def lkW (w : List Nat) : Option Ln := if w = [62] then some .pa else if w = [43] then some .el else none
theorem look_links (w : List Nat) : lookD md_LINKS (Sg w) = (lkW w).map fun k => wD (lnW k) := by
  unfold md_LINKS lkW
  show (if Sg [62] = Sg w then _ else if Sg [43] = Sg w then _ else none) = _
  by_cases h1 : w = [62]
  · subst h1; rfl
  · rw [if_neg fun z => h1 (ST_inj.mp z).symm, if_neg h1]
    by_cases h2 : w = [43]
    · subst h2; rfl
    · rw [if_neg fun z => h2 (ST_inj.mp z).symm, if_neg h2]; rfl
theorem rs_mdIn {rows : List (Str × D)} {z : Str} {Q : D → Prop} {E : Str → List Str → List D → Prop} (q : Q (.bl (lookD rows z).isSome)) : Rs (mdIn false rows (.str z)) Q E := q
theorem rs_mdGet {rows : List (Str × D)} {z : Str} {d : D} {Q : D → Prop} {E : Str → List Str → List D → Prop} (h : lookD rows z = some d) (q : Q d) : Rs (mdGet rows (.str z)) Q E := by
  unfold mdGet; dsimp only; rw [h]; exact q
def rdP : List (List Nat) → Ln → List TT → List Ln → Option (List TT × List Ln × Ln)
  | [], k, ts, ls => some (ts, ls, k)
  | w :: ws, k, ts, ls => if k = .an ∧ (lkW w).isSome = true then rdP ws ((lkW w).getD .st) ts ls else match testP w with
    | none => none
    | some t => rdP ws .an (ts ++ [t]) (ls ++ [k])
def readT (l : List Nat) : Option (List TT × List Ln) := match rdP (spc 32 l) .st [] [] with
  | some (ts, ls, k) => if k = .an ∧ ts.length ≤ 4 then some (ts, ls) else none
  | none => none
theorem spc_ln {c : Nat} {l w : List Nat} (h : w ∈ spc c l) : w.length ≤ l.length := by
  have : ∀ (l acc : List Nat), ∀ w ∈ TL.spl [c] 0 acc l, w.length ≤ acc.length + l.length := by
    intro l
    induction l with
    | nil => intro acc w hw; rw [TL.spl_nil] at hw; rw [List.mem_singleton.mp hw]; simp
    | cons x r ih =>
      intro acc w hw
      rw [spl_cons] at hw
      by_cases hx : x = c
      · rw [if_pos hx] at hw
        rcases List.mem_cons.mp hw with rfl | hw
        · omega
        · have := ih [] w hw; simp at this ⊢; omega
      · rw [if_neg hx] at hw
        have := ih (acc ++ [x]) w hw
        simp at this ⊢; omega
  have := this l [] w h
  simpa using this
theorem spc_many (c : Nat) (l : List Nat) : (spc c l).length ≤ l.length + 1 := by
  have : ∀ (l acc : List Nat), (TL.spl [c] 0 acc l).length ≤ l.length + 1 := by
    intro l
    induction l with
    | nil => intro acc; rw [TL.spl_nil]; simp
    | cons x r ih =>
      intro acc
      rw [spl_cons]
      by_cases hx : x = c
      · rw [if_pos hx]; have := ih []; simp at this ⊢; omega
      · rw [if_neg hx]; have := ih (acc ++ [x]); simp at this ⊢; omega
  exact this l []
theorem read_pattern_eq {l : List Nat} (hl : l.length ≤ 9000) : F_read_pattern [wD l] = .ok (match readT l with
    | none => .non
    | some (ts, ls) => .tup [.tup (ts.map ttD), .tup (ls.map fun k => wD (lnW k))]) := Rs.eq (by
  refine rs_run ?_
  unfold Fb_read_pattern
  show Ss (seqF _ _ [some (wD l), none, none, none, none, none]) _ _ _ _ _
  refine ss_seq (ss_set (rs_lst (rs_nil ⟨Nat.zero_le _, ?_⟩)))
  refine ss_seq (ss_set (rs_lst (rs_nil ⟨Nat.zero_le _, ?_⟩)))
  refine ss_seq (ss_set (rs_c ?_))
  refine ss_seq (ss_each wD (spc 32 l) (fun i r => ∃ ts ls k x4 x5, r = [some (wD l), some (.lst (ts.map ttD)), some (.lst (ls.map fun k => wD (lnW k))), some (wD (lnW k)), x4, x5] ∧ ts.length ≤ i ∧ ls.length ≤ i ∧ rdP ((spc 32 l).drop i) k ts ls = rdP (spc 32 l) .st [] []) ?_ ?_ ?_ ?_)
  · exact rs_str (rs_var rfl (rs_asS (rs_c (rs_split ⟨by decide, Nat.le_trans (show _ ≤ 100000 by omega) sz5⟩ rfl))))
  · exact ⟨[], [], .st, none, none, rfl, by simp, by simp, rfl⟩
  · rintro i w r hw ⟨ts, ls, k, x4, x5, rfl, h1, h2, h3⟩
    have hwl : w.length ≤ 10000 := by have := spc_ln (List.mem_of_getElem? hw); omega
    have hil : i ≤ 9001 := by
      have := (List.getElem?_eq_some_iff.mp hw).1
      have := spc_many 32 l
      omega
    have hd : (spc 32 l).drop i = w :: (spc 32 l).drop (i + 1) := by
      obtain ⟨hi, e⟩ := List.getElem?_eq_some_iff.mp hw
      rw [List.drop_eq_getElem_cons hi, e]
    rw [hd, rdP] at h3
    show Ss (Lp_read_pattern_1 [some (wD l), some (.lst (ts.map ttD)), some (.lst (ls.map fun k => wD (lnW k))), some (wD (lnW k)), some (wD w), x5]) _ _ _ _ _
    unfold Lp_read_pattern_1
    refine ss_seq (ss_if (rs_and (rs_T (rs_un (rs_var (d := wD w) rfl (rs_mdIn (rs_asB (rs_T (rs_op (rs_var rfl (rs_c (rs_eqS (rs_asB ⟨fun z => ?_, fun z => ?_⟩)))))))))))))
    · rw [look_links, Bool.and_eq_true, decide_eq_true_eq, lnW_an, Option.isSome_map] at z
      obtain ⟨z1, z2⟩ := z
      rw [if_pos ⟨z2, z1⟩] at h3
      obtain ⟨k', hk'⟩ := Option.isSome_iff_exists.mp z1
      rw [hk'] at h3
      refine ss_seq (ss_set (rs_un (rs_var (d := wD w) rfl (rs_mdGet (d := wD (lnW k')) (by rw [look_links, hk']; rfl) ?_))))
      exact ss_ct ⟨ts, ls, k', _, x5, rfl, by omega, by omega, h3⟩
    · have hn : ¬ (k = .an ∧ (lkW w).isSome = true) := fun h => by
        rw [look_links, Option.isSome_map, h.2, decide_eq_true (lnW_an.mpr h.1)] at z
        cases z
      rw [if_neg hn] at h3
      refine ss_nx (ss_seq (ss_set (rs_call (rs_cons (rs_var (d := wD w) rfl (rs_nil (Rs.of (read_test_eq hwl) ?_)))))))
      cases ht : testP w with
      | none =>
        rw [ht] at h3
        refine ss_seq (ss_if (rs_T (rs_op (rs_var rfl (rs_c (rs_is (rs_asB ⟨fun _ => ?_, fun z => (by cases z)⟩)))))))
        refine ss_ret (rs_c ?_)
        unfold readT
        rw [← h3]
      | some t =>
        rw [ht] at h3
        dsimp only at h3
        refine ss_seq (ss_if (rs_T (rs_op (rs_var rfl (rs_c (rs_is (rs_asB ⟨fun z => (by cases z), fun _ => ss_nx ?_⟩)))))))
        refine ss_seq (ss_app (ds := ts.map ttD) rfl (rs_var (d := ttD t) rfl ⟨Nat.lt_of_lt_of_le (show _ < 100000 by rw [List.length_map]; omega) sz5, ?_⟩))
        refine ss_seq (ss_app (ds := ls.map fun k => wD (lnW k)) rfl (rs_var (d := wD (lnW k)) rfl ⟨Nat.lt_of_lt_of_le (show _ < 100000 by rw [List.length_map]; omega) sz5, ?_⟩))
        refine ss_set (rs_c ⟨ts ++ [t], ls ++ [k], .an, some (wD w), some (ttD t), ?_, by rw [List.length_append]; simp; omega, by rw [List.length_append]; simp; omega, h3⟩)
        rw [List.map_append, List.map_append]
        rfl
  · rintro r ⟨ts, ls, k, x4, x5, rfl, h1, h2, h3⟩
    rw [List.drop_length, rdP] at h3
    unfold readT
    rw [← h3]
    dsimp only
    have := spc_many 32 l
    refine ss_seq (ss_if (rs_or (rs_T (rs_op (rs_var rfl (rs_c (rs_neS (rs_asB (rs_T (rs_op (rs_call (rs_cons (rs_var (d := .lst (ts.map ttD)) rfl (rs_nil (rs_lenL (rs_c (rs_gt (rs_asB ⟨fun z => ?_, fun z => ss_nx ?_⟩))))))))))))))))))
    · have : ¬ (k = .an ∧ ts.length ≤ 4) := fun h => by
        rw [decide_eq_true (lnW_an.mpr h.1), decide_eq_false (by rw [List.length_map]; omega)] at z
        cases z
      rw [if_neg this]
      exact ss_ret (rs_c rfl)
    · have : k = .an ∧ ts.length ≤ 4 := by
        rw [Bool.or_eq_false_iff] at z
        refine ⟨lnW_an.mp (by simpa using z.1), ?_⟩
        have := of_decide_eq_false z.2
        rw [List.length_map] at this
        omega
      rw [if_pos this]
      refine ss_ret (rs_tup (rs_cons (rs_call (rs_cons (rs_var (d := .lst (ts.map ttD)) rfl (rs_nil (rs_tupL (rs_cons (rs_call (rs_cons (rs_var (d := .lst (ls.map fun k => wD (lnW k))) rfl (rs_nil (rs_tupL (rs_nil ⟨Nat.le_of_ble_eq_true rfl, rfl⟩)))))))))))))))
end
section
theorem spc_app (c : Nat) (a b : List Nat) : spc c (a ++ c :: b) = spc c a ++ spc c b := by
  have : ∀ (a acc : List Nat), TL.spl [c] 0 acc (a ++ c :: b) = TL.spl [c] 0 acc a ++ TL.spl [c] 0 [] b := by
    intro a
    induction a with
    | nil => intro acc; rw [List.nil_append, spl_cons, if_pos rfl, TL.spl_nil]; rfl
    | cons x r ih =>
      intro acc
      rw [List.cons_append, spl_cons, spl_cons]
      by_cases h : x = c
      · rw [if_pos h, if_pos h, ih]; rfl
      · rw [if_neg h, if_neg h, ih]
  exact this a []
theorem brk_no {c : Nat} : ∀ {a : List Nat}, c ∉ a → brk c a = none
  | [], _ => rfl
  | x :: r, h => by
    unfold brk
    rw [if_neg (fun e => h (by rw [e]; exact List.mem_cons_self ..)), brk_no fun m => h (List.mem_cons_of_mem _ m)]
theorem brk_mid {c : Nat} : ∀ {p q : List Nat}, c ∉ p → brk c (p ++ c :: q) = some (p, q)
  | [], q, _ => by show brk c (c :: q) = _; unfold brk; rw [if_pos rfl]
  | x :: r, q, h => by
    show brk c (x :: (r ++ c :: q)) = _
    unfold brk
    rw [if_neg (fun e => h (by rw [e]; exact List.mem_cons_self ..)), brk_mid fun m => h (List.mem_cons_of_mem _ m)]
theorem rdP_app : ∀ (ws us : List (List Nat)) (k : Ln) (ts : List TT) (ls : List Ln), rdP (ws ++ us) k ts ls = (rdP ws k ts ls).bind fun y => rdP us y.2.2 y.1 y.2.1
  | [], us, k, ts, ls => by rw [rdP]; rfl
  | w :: ws, us, k, ts, ls => by
    rw [List.cons_append, rdP, rdP]
    by_cases h : k = .an ∧ (lkW w).isSome = true
    · rw [if_pos h, if_pos h, rdP_app]
    · rw [if_neg h, if_neg h]
      cases testP w with
      | none => rfl
      | some t => dsimp only; rw [rdP_app]
/-- a written test: no blank in it, no link -/
structure Wd (w : List Nat) (t : TT) : Prop where
  bl : 32 ∉ w
  lk : lkW w = none
  te : testP w = some t
  ln : w.length ≤ 17
def KdOk (w : List Nat) : Prop := w = [42] ∨ Nm w
theorem nm_not {w : List Nat} {c : Nat} (h : Nm w) (hc : c < 97) : c ∉ w := fun m => by have := (h.2.2 c m).1; omega
theorem kd_not {w : List Nat} {c : Nat} (h : KdOk w) (hc : c < 97) (h2 : c ≠ 42) : c ∉ w := by
  rcases h with rfl | h
  · simp [h2]
  · exact nm_not h hc
theorem kd_ok {w : List Nat} (h : KdOk w) : okKd w = true := by
  unfold okKd
  rcases h with rfl | h
  · rfl
  · rw [nmB_iff.mpr h, Bool.or_true]
theorem kd_len {w : List Nat} (h : KdOk w) : 0 < w.length ∧ w.length ≤ 8 := by
  rcases h with rfl | h
  · exact ⟨by decide, by decide⟩
  · exact ⟨h.1, h.2.1⟩
theorem lk_none {w : List Nat} (h : 62 ∉ w) (h2 : 43 ∉ w) : lkW w = none := by
  unfold lkW
  rw [if_neg (fun e => h (by rw [e]; exact List.mem_cons_self ..)), if_neg (fun e => h2 (by rw [e]; exact List.mem_cons_self ..))]
theorem wd_kind {k : List Nat} (h : KdOk k) : Wd k (k, []) := ⟨kd_not h (by omega) (by omega), lk_none (kd_not h (by omega) (by omega)) (kd_not h (by omega) (by omega)), by
  unfold testP
  rw [brk_no (kd_not h (by omega) (by omega))]
  dsimp only
  rw [if_pos (kd_ok h)], by have := kd_len h; omega⟩
theorem wd_mark {k m : List Nat} (h : KdOk k) (hm : Nm m) : Wd (k ++ 46 :: m) (k, m) := by
  have n : ∀ c : Nat, c < 97 → c ≠ 42 → c ≠ 46 → c ∉ k ++ 46 :: m := fun c h1 h2 h3 hc => by
    rcases List.mem_append.mp hc with hc | hc
    · exact kd_not h h1 h2 hc
    · rcases List.mem_cons.mp hc with hc | hc
      · exact h3 hc
      · exact nm_not hm h1 hc
  refine ⟨n 32 (by omega) (by omega) (by omega), lk_none (n 62 (by omega) (by omega) (by omega)) (n 43 (by omega) (by omega) (by omega)), ?_, ?_⟩
  · unfold testP
    rw [brk_mid (kd_not h (by omega) (by omega))]
    dsimp only
    rw [kd_ok h, nmB_iff.mpr hm]
    rfl
  · have := kd_len h
    have := hm.2.1
    rw [List.length_append, List.length_cons]
    omega
theorem rdP_one {w : List Nat} {t : TT} (h : Wd w t) (k : Ln) (ts : List TT) (ls : List Ln) : rdP [w] k ts ls = some (ts ++ [t], ls ++ [k], .an) := by
  rw [rdP, if_neg (fun e => by rw [h.lk] at e; cases e.2), h.te]
  rfl
/-- how a link is written -/
def sepL : Ln → List Nat
  | .st => [32]
  | .an => [32]
  | .pa => [32, 62, 32]
  | .el => [32, 43, 32]
theorem rdP_first {w : List Nat} {t : TT} (h : Wd w t) : rdP (spc 32 w) .st [] [] = some ([t], [.st], .an) := by
  rw [spc_none h.bl, rdP_one h]
  rfl
theorem rdP_more {x w : List Nat} {t : TT} {ts : List TT} {ls : List Ln} {k : Ln} (hk : k ≠ .st) (hx : rdP (spc 32 x) .st [] [] = some (ts, ls, .an)) (h : Wd w t) : rdP (spc 32 (x ++ sepL k ++ w)) .st [] [] = some (ts ++ [t], ls ++ [k], .an) := by
  cases k with
  | st => exact (hk rfl).elim
  | an =>
    show rdP (spc 32 (x ++ [32] ++ w)) _ _ _ = _
    rw [show x ++ [32] ++ w = x ++ 32 :: w by simp, spc_app, rdP_app, hx]
    show rdP (spc 32 w) .an ts ls = _
    rw [spc_none h.bl, rdP_one h]
  | pa =>
    show rdP (spc 32 (x ++ [32, 62, 32] ++ w)) _ _ _ = _
    rw [show x ++ [32, 62, 32] ++ w = x ++ 32 :: ([62] ++ 32 :: w) by simp, spc_app, rdP_app, hx, spc_app, spc_none (a := [62]) (by decide), spc_none h.bl]
    show rdP [[62], w] .an ts ls = _
    rw [rdP, if_pos ⟨rfl, rfl⟩]
    exact rdP_one h .pa ts ls
  | el =>
    show rdP (spc 32 (x ++ [32, 43, 32] ++ w)) _ _ _ = _
    rw [show x ++ [32, 43, 32] ++ w = x ++ 32 :: ([43] ++ 32 :: w) by simp, spc_app, rdP_app, hx, spc_app, spc_none (a := [43]) (by decide), spc_none h.bl]
    show rdP [[43], w] .an ts ls = _
    rw [rdP, if_pos ⟨rfl, rfl⟩]
    exact rdP_one h .el ts ls
theorem readT_of {x : List Nat} {ts : List TT} {ls : List Ln} (h : rdP (spc 32 x) .st [] [] = some (ts, ls, .an)) (h4 : ts.length ≤ 4) : readT x = some (ts, ls) := by
  unfold readT
  rw [h]
  dsimp only
  rw [if_pos ⟨rfl, h4⟩]
end
section
def encN : Nat → (Nat → Bool) → Nat
  | 0, _ => 0
  | n + 1, b => encN n b + (if b n = true then 2 ^ n else 0)
theorem encN_eq {n : Nat} {a b : Nat → Bool} (h : ∀ i, i < n → a i = b i) : encN n a = encN n b := by
  induction n with
  | zero => rfl
  | succ n ih => rw [encN, encN, ih fun i hi => h i (by omega), h n (by omega)]
/-- the bits of these links -/
def lkB (ls : List Ln) (k : Ln) : Nat → Bool := fun i => decide (ls[i]? = some k)
def lnkD (ls : List Ln) : D := dkT [(lnW .st, .int (encN ls.length (lkB ls .st) : Nat)), (lnW .an, .int (encN ls.length (lkB ls .an) : Nat)), (lnW .pa, .int (encN ls.length (lkB ls .pa) : Nat)), (lnW .el, .int (encN ls.length (lkB ls .el) : Nat))]
def bitsD : Nat → List TT → List D
  | _, [] => []
  | i, t :: ts => .tup [ttD t, .int ((2 ^ i : Nat) : Int)] :: bitsD (i + 1) ts
theorem bitsD_app (t : TT) : ∀ (i : Nat) (ts : List TT), bitsD i (ts ++ [t]) = bitsD i ts ++ [.tup [ttD t, .int ((2 ^ (i + ts.length) : Nat) : Int)]]
  | i, [] => rfl
  | i, u :: ts => by
    rw [List.cons_append, bitsD, bitsD, bitsD_app t (i + 1) ts, List.length_cons, show i + 1 + ts.length = i + (ts.length + 1) by omega]
    rfl
theorem bitsD_len : ∀ (ts : List TT) (i : Nat), (bitsD i ts).length = ts.length
  | [], i => rfl
  | u :: ts, i => by rw [bitsD, List.length_cons, List.length_cons, bitsD_len]
def ptsD (ts : List TT) (ls : List Ln) (es : List Nat) : D := .obj "Points" ["tests", "linked", "ends"] [.lst (bitsD 0 ts), lnkD ls, iL (es.map fun (e : Nat) => ((2 ^ (e - 1) : Nat) : Int))]
theorem lkB_app (ls : List Ln) (k l : Ln) : encN (ls ++ [l]).length (lkB (ls ++ [l]) k) = encN ls.length (lkB ls k) + (if l = k then 2 ^ ls.length else 0) := by
  rw [List.length_append]
  show encN (ls.length + 1) _ = _
  rw [encN]
  congr 1
  · exact encN_eq fun i hi => by unfold lkB; rw [List.getElem?_append_left hi]
  · unfold lkB
    rw [List.getElem?_append_right (Nat.le_refl _), Nat.sub_self]
    by_cases e : l = k
    · subst e; simp
    · rw [if_neg e, if_neg (by simp [e])]
def lnkT (ls : List Ln) : TD := [(lnW .st, .int (encN ls.length (lkB ls .st) : Nat)), (lnW .an, .int (encN ls.length (lkB ls .an) : Nat)), (lnW .pa, .int (encN ls.length (lkB ls .pa) : Nat)), (lnW .el, .int (encN ls.length (lkB ls .el) : Nat))]
theorem lnk_nd (ls : List Ln) : NdK (lnkT ls) := by
  unfold NdK lnkT
  show [lnW .st, lnW .an, lnW .pa, lnW .el].Nodup
  decide
theorem lnk_get (ls : List Ln) (k : Ln) : lk (lnkT ls) (lnW k) = some (.int (encN ls.length (lkB ls k) : Nat)) := lk_of (lnk_nd ls) (by cases k <;> simp [lnkT])
theorem lnk_app (ls : List Ln) (l : Ln) : setT (lnkT ls) (lnW l) (.int ((encN ls.length (lkB ls l) : Nat) + ((2 ^ ls.length : Nat) : Int))) = lnkT (ls ++ [l]) := by
  have a : ∀ k, k ≠ l → encN (ls ++ [l]).length (lkB (ls ++ [l]) k) = encN ls.length (lkB ls k) := fun k h => by rw [lkB_app, if_neg (Ne.symm h), Nat.add_zero]
  have b : ((encN ls.length (lkB ls l) : Nat) : Int) + ((2 ^ ls.length : Nat) : Int) = ((encN (ls ++ [l]).length (lkB (ls ++ [l]) l) : Nat) : Int) := by rw [lkB_app, if_pos rfl, Int.natCast_add]
  rw [b]
  unfold lnkT
  cases l with
  | st => rw [a .an (by decide), a .pa (by decide), a .el (by decide)]; rfl
  | an => rw [a .st (by decide), a .pa (by decide), a .el (by decide)]; rfl
  | pa => rw [a .an (by decide), a .st (by decide), a .el (by decide)]; rfl
  | el => rw [a .an (by decide), a .pa (by decide), a .st (by decide)]; rfl
/-- a pattern: its text, tests, links -/
structure Pt where
  tx : List Nat
  ts : List TT
  ls : List Ln
def ptD (p : Pt) : D := .obj "Pattern" ["text", "tests", "links"] [wD p.tx, .tup (p.ts.map ttD), .tup (p.ls.map fun k => wD (lnW k))]
def PtOk (p : Pt) : Prop := p.ts.length = p.ls.length ∧ 0 < p.ts.length ∧ p.ts.length ≤ 4
def endsOf : Nat → List Pt → List Nat
  | _, [] => []
  | n, p :: ps => (n + p.ts.length) :: endsOf (n + p.ts.length) ps
theorem endsOf_app (q : Pt) : ∀ (n : Nat) (ps : List Pt), endsOf n (ps ++ [q]) = endsOf n ps ++ [n + ((ps ++ [q]).flatMap (·.ts)).length]
  | n, [] => by simp [endsOf]
  | n, p :: ps => by
    rw [List.cons_append, endsOf, endsOf, endsOf_app q]
    simp
    omega
theorem endsOf_len : ∀ (n : Nat) (ps : List Pt), (endsOf n ps).length = ps.length
  | n, [] => rfl
  | n, p :: ps => by rw [endsOf, List.length_cons, List.length_cons, endsOf_len]
theorem many_len : ∀ {ps : List Pt}, (∀ p ∈ ps, PtOk p) → (ps.flatMap (·.ts)).length = (ps.flatMap (·.ls)).length ∧ (ps.flatMap (·.ts)).length ≤ 4 * ps.length
  | [], _ => ⟨rfl, Nat.le_refl _⟩
  | p :: ps, h => by
    obtain ⟨h1, h2⟩ := many_len fun q hq => h q (List.mem_cons_of_mem _ hq)
    obtain ⟨a, _, b⟩ := h p (List.mem_cons_self ..)
    simp only [List.flatMap_cons, List.length_append, List.length_cons]
    omega
theorem ss_fstP {i : Nat} {n fl : Str} {f : Rho → Res D} {ns ns' : List Str} {vs vs' : List D} {d : D} {r : Rho} {N B C : Rho → Prop} {R : D → Prop} {E : Rho → Str → List Str → List D → Prop} (hf : Rs (f r) (fun x => x = d) (E r)) (h1 : r[i]? = some (some (.obj n ns vs))) (hn : ns.length < 1000) (hp : putN fl d ns vs = (ns', vs')) (h : N (r.set i (some (.obj n ns' vs')))) : Ss (fstF i n fl f r) N R B C E :=
  ss_fst (ns := ns) (vs := vs) (hf.impE (fun x e => by subst e; refine ⟨h1, hn, ?_⟩; rw [hp]; exact h) fun _ _ _ z => z)
theorem points_eq {ps : List Pt} (hp : ∀ p ∈ ps, PtOk p) (hl : ps.length ≤ 14) : F_Points_init [.lst (ps.map ptD)] = .ok (ptsD (ps.flatMap (·.ts)) (ps.flatMap (·.ls)) (endsOf 0 ps)) := Rs.eq (by
  refine rs_runI ?_
  unfold Fb_Points_init
  show Ss (seqF _ _ [some (.obj "Points" [] []), some (.lst (ps.map ptD)), none, none, none, none, none, none, none]) _ _ _ _ _
  refine ss_seq (ss_set (rs_lst (rs_nil ⟨Nat.zero_le _, ?_⟩)))
  refine ss_seq (ss_set (rs_lst (rs_nil ⟨Nat.zero_le _, ?_⟩)))
  refine ss_seq (ss_set (rs_disp (rs_pcons (rs_c (rs_c (rs_pcons (rs_c (rs_c (rs_pcons (rs_c (rs_c (rs_pcons (rs_c (rs_c (rs_pnil ?_)))))))))))))))
  refine rs_ok (?_ : _)
  show Ss (seqF _ _ [some (.obj "Points" [] []), some (.lst (ps.map ptD)), some (.lst []), some (.lst []), some (dkT (lnkT [])), none, none, none, none]) _ _ _ _ _
  refine ss_seq (ss_set (rs_c ?_))
  refine ss_seq (ss_each ptD ps (fun i r => ∃ x6 x7 x8, r = [some (.obj "Points" [] []), some (.lst (ps.map ptD)), some (.lst (bitsD 0 ((ps.take i).flatMap (·.ts)))), some (iL ((endsOf 0 (ps.take i)).map fun (e : Nat) => ((2 ^ (e - 1) : Nat) : Int))), some (dkT (lnkT ((ps.take i).flatMap (·.ls)))), some (.int ((2 ^ ((ps.take i).flatMap (·.ts)).length : Nat) : Int)), x6, x7, x8]) (rs_var rfl rfl) ⟨none, none, none, rfl⟩ ?_ ?_)
  · rintro i p r hip ⟨x6, x7, x8, rfl⟩
    have hi := (List.getElem?_eq_some_iff.mp hip).1
    have okp := hp p (List.mem_of_getElem? hip)
    have okt : ∀ q ∈ ps.take i, PtOk q := fun q hq => hp q (List.mem_of_mem_take hq)
    obtain ⟨m1, m2⟩ := many_len okt
    have hlen : (ps.take i).length = i := by rw [List.length_take]; omega
    rw [take_snoc hip]
    generalize hA : (ps.take i).flatMap (·.ts) = ts at *
    generalize hB : (ps.take i).flatMap (·.ls) = ls at *
    show Ss (Lp_Points_init_2 [some (.obj "Points" [] []), some (.lst (ps.map ptD)), some (.lst (bitsD 0 ts)), some (iL ((endsOf 0 (ps.take i)).map fun (e : Nat) => ((2 ^ (e - 1) : Nat) : Int))), some (dkT (lnkT ls)), some (.int ((2 ^ ts.length : Nat) : Int)), some (ptD p), x7, x8]) _ _ _ _ _
    unfold Lp_Points_init_2
    have hz : pairs (p.ts.map ttD) (p.ls.map fun k => wD (lnW k)) = (p.ts.zip p.ls).map fun z => .tup [ttD z.1, wD (lnW z.2)] := by
      have : ∀ (a : List TT) (b : List Ln), pairs (a.map ttD) (b.map fun k => wD (lnW k)) = (a.zip b).map fun z => .tup [ttD z.1, wD (lnW z.2)] := by
        intro a
        induction a with
        | nil => intro b; rfl
        | cons x a ih =>
          intro b
          cases b with
          | nil => rfl
          | cons y b => rw [List.map_cons, List.map_cons, pairs, ih b]; rfl
      exact this _ _
    refine ss_seq (ss_for (fun j r => ∃ x7 x8, r = [some (.obj "Points" [] []), some (.lst (ps.map ptD)), some (.lst (bitsD 0 (ts ++ p.ts.take j))), some (iL ((endsOf 0 (ps.take i)).map fun (e : Nat) => ((2 ^ (e - 1) : Nat) : Int))), some (dkT (lnkT (ls ++ p.ls.take j))), some (.int ((2 ^ (ts.length + (p.ts.take j).length) : Nat) : Int)), some (ptD p), x7, x8]) (rs_its (rs_cons (rs_un (rs_var (d := ptD p) rfl (rs_fld (d := .tup (p.ts.map ttD)) rfl (rs_cons (rs_un (rs_var (d := ptD p) rfl (rs_fld (d := .tup (p.ls.map fun k => wD (lnW k))) rfl (rs_nil (rs_zipTT ⟨⟨x7, x8, ?_⟩, ?_, ?_⟩))))))))))))
    · simp
    · rintro j d r hd ⟨x7, x8, rfl⟩
      rw [hz, List.getElem?_map] at hd
      obtain ⟨⟨t, l⟩, htl, rfl⟩ := Option.map_eq_some_iff.mp hd
      rw [List.getElem?_zip_eq_some] at htl
      obtain ⟨ht, hl2⟩ := htl
      have hj := (List.getElem?_eq_some_iff.mp ht).1
      have e1 : (p.ts.take j).length = j := by rw [List.length_take]; omega
      have e2 : (p.ls.take j).length = j := by rw [List.length_take]; have := okp.1; omega
      have okp4 := okp.2.2
      refine ⟨_, rfl, ?_⟩
      show Ss (Lp_Points_init_1 [some (.obj "Points" [] []), some (.lst (ps.map ptD)), some (.lst (bitsD 0 (ts ++ p.ts.take j))), some (iL ((endsOf 0 (ps.take i)).map fun (e : Nat) => ((2 ^ (e - 1) : Nat) : Int))), some (dkT (lnkT (ls ++ p.ls.take j))), some (.int ((2 ^ (ts.length + (p.ts.take j).length) : Nat) : Int)), some (ptD p), some (ttD t), some (wD (lnW l))]) _ _ _ _ _
      unfold Lp_Points_init_1
      rw [take_snoc ht, take_snoc hl2, ← List.append_assoc, ← List.append_assoc]
      have eL : (ts ++ p.ts.take j).length = (ls ++ p.ls.take j).length := by rw [List.length_append, List.length_append, e1, e2, m1]
      refine ss_seq (ss_app (ds := bitsD 0 (ts ++ p.ts.take j)) rfl (rs_tup (rs_cons (rs_var (d := ttD t) rfl (rs_cons (rs_var rfl (rs_nil ⟨Nat.le_of_ble_eq_true rfl, Nat.lt_of_lt_of_le (show _ < 100000 by rw [bitsD_len, List.length_append, e1]; omega) sz5, ?_⟩)))))))
      refine ss_seq (ss_putTk (T := lnkT (ls ++ p.ls.take j)) (lnk_nd _) rfl (rs_op (rs_op (rs_var (d := dkT (lnkT (ls ++ p.ls.take j))) rfl (rs_var (d := wD (lnW l)) rfl (rs_getT (lnk_get _ l) (rs_var rfl (rs_add (rs_var (d := wD (lnW l)) rfl ⟨lnW l, rfl, by show 4 < 100000; decide, ?_⟩)))))))))
      refine ss_set (rs_op (rs_var rfl (rs_c (rs_mul (Or.inr (small_of (by omega) (by omega))) ?_))))
      refine ⟨some (ttD t), some (wD (lnW l)), ?_⟩
      have f1 : ((2 ^ (ts.length + (p.ts.take j).length) : Nat) : Int) = ((2 ^ (ls ++ p.ls.take j).length : Nat) : Int) := by rw [← eL, List.length_append]
      rw [bitsD_app, f1, lnk_app]
      show [_, _, some (D.lst _), _, _, some (D.int _), _, _, _] = _
      rw [← f1]
      have f2 : ((2 ^ (ts.length + (p.ts.take j).length) : Nat) : Int) * 2 = ((2 ^ (ts.length + (p.ts.take j ++ [t]).length) : Nat) : Int) := by
        rw [List.length_append, ← Nat.add_assoc, List.length_singleton, Nat.pow_succ]
        omega
      rw [f2, f1, eL, Nat.zero_add]
    · rintro r ⟨x7, x8, rfl⟩
      have hzl : (pairs (p.ts.map ttD) (p.ls.map fun k => wD (lnW k))).length = p.ts.length := by rw [hz, List.length_map, List.length_zip, okp.1, Nat.min_self]
      rw [hzl, List.take_length, okp.1, List.take_length]
      refine ss_app (ds := ((endsOf 0 (ps.take i)).map fun (e : Nat) => ((2 ^ (e - 1) : Nat) : Int)).map D.int) rfl (rs_op (rs_var rfl (rs_c (rs_fdiv (by omega) ?_))))
      refine ⟨Nat.lt_of_lt_of_le (show _ < 100000 by rw [List.length_map, List.length_map, endsOf_len]; omega) sz5, some (ptD p), x7, x8, ?_⟩
      rw [endsOf_app, List.flatMap_append, List.flatMap_append, hA, hB, List.map_append]
      have e3 : ((2 ^ (ts.length + p.ts.length) : Nat) : Int) / 2 = ((2 ^ (0 + (ts ++ [p].flatMap (·.ts)).length - 1) : Nat) : Int) := by
        have e4 : [p].flatMap (·.ts) = p.ts := by simp
        rw [e4, List.length_append, Nat.zero_add]
        obtain ⟨m, hm⟩ : ∃ m, ts.length + p.ts.length = m + 1 := ⟨ts.length + p.ts.length - 1, by have := okp.2.1; omega⟩
        rw [hm, Nat.pow_succ, Nat.add_sub_cancel]
        omega
      have e5 : [p].flatMap (·.ts) = p.ts := by simp
      have e6 : [p].flatMap (·.ls) = p.ls := by simp
      rw [okp.1] at e3
      rw [e3, e5, e6, List.length_append, okp.1]
      show [_, _, _, some (D.lst _), _, _, _, _, _] = [_, _, _, some (D.lst _), _, _, _, _, _]
      rw [List.map_append]
      rfl
  · rintro r ⟨x6, x7, x8, rfl⟩
    rw [List.take_length]
    refine ss_seq (ss_fstP (ns := []) (vs := []) (ns' := ["tests"]) (vs' := [_]) (rs_var rfl rfl) rfl (by decide) rfl ?_)
    refine ss_seq (ss_fstP (ns := ["tests"]) (vs := [_]) (ns' := ["tests", "linked"]) (vs' := [_, _]) (rs_var rfl rfl) rfl (by decide) (by rfl) ?_)
    refine ss_fstP (ns := ["tests", "linked"]) (vs := [_, _]) (ns' := ["tests", "linked", "ends"]) (vs' := [_, _, _]) (rs_var rfl rfl) rfl (by decide) (by rfl) ?_
    exact ⟨_, rfl, rfl⟩)
end
section
structure Cd {α : Type} [DecidableEq α] (P : α → Prop) (f : α → D) (n : Nat) (py : α → PyData) : Prop where
  e : ∀ a, P a → toPy (f a) = some (py a)
  l : ∀ a, P a → PyData.canLay0 (py a) = true ∧ PyData.depth (py a) ≤ n
  q : ∀ a b, P a → P b → PyData.eqv (py a) (py b) = decide (a = b)
theorem beq_dec {α : Type} [DecidableEq α] (a b : α) : (a == b) = decide (a = b) := rfl
theorem cd_int : Cd (fun _ => True) D.int 0 PyData.int := ⟨fun _ _ => by simp [toPy], fun _ _ => by simp [PyData.canLay0, PyData.depth], fun a b _ _ => by simp [PyData.eqv, beq_dec]⟩
theorem cd_bl : Cd (fun _ => True) D.bl 0 PyData.bool := ⟨fun _ _ => by simp [toPy], fun _ _ => by simp [PyData.canLay0, PyData.depth], fun a b _ _ => by simp only [PyData.eqv]; cases a <;> cases b <;> rfl⟩
section
variable {α β γ δ ε : Type} [DecidableEq α] [DecidableEq β] [DecidableEq γ] [DecidableEq δ] [DecidableEq ε] {P : α → Prop} {R : β → Prop} {T : γ → Prop} {U : δ → Prop} {f : α → D} {g : β → D} {h : γ → D} {k : δ → D} {n : Nat} {py : α → PyData} {pz : β → PyData} {pw : γ → PyData} {px : δ → PyData}
theorem Cd.all (c : Cd P f n py) : ∀ xs : List α, (∀ x ∈ xs, P x) → toPyL (xs.map f) = some (xs.map py) ∧ PyData.canLayAll0 (xs.map py) = true ∧ PyData.depthAll (xs.map py) ≤ n
  | [], _ => ⟨by simp [toPyL], by simp [PyData.canLayAll0], by simp [PyData.depthAll]⟩
  | x :: xs, hx => by
    obtain ⟨h1, h2, h3⟩ := c.all xs fun y hy => hx y (List.mem_cons_of_mem _ hy)
    have hp := hx x List.mem_cons_self
    refine ⟨by rw [List.map_cons, toPyL, h1, c.e x hp]; rfl, ?_, ?_⟩
    · rw [List.map_cons, PyData.canLayAll0, h2, (c.l x hp).1]; rfl
    · rw [List.map_cons, PyData.depthAll]
      exact Nat.max_le.mpr ⟨(c.l x hp).2, h3⟩
theorem toPy4 {a b c d : D} {p q r s : PyData} (h1 : toPy a = some p) (h2 : toPy b = some q) (h3 : toPy c = some r) (h4 : toPy d = some s) : toPy (.tup [a, b, c, d]) = some (.tuple [p, q, r, s]) := by
  rw [toPy, toPyL, toPyL, toPyL, toPyL, toPyL, h1, h2, h3, h4]; rfl
theorem cd_p4 (c : Cd P f n py) (d : Cd R g n pz) (e : Cd T h n pw) (o : Cd U k n px) : Cd (fun p : α × β × γ × δ => P p.1 ∧ R p.2.1 ∧ T p.2.2.1 ∧ U p.2.2.2) (fun p => D.tup [f p.1, g p.2.1, h p.2.2.1, k p.2.2.2]) (n + 1) (fun p => .tuple [py p.1, pz p.2.1, pw p.2.2.1, px p.2.2.2]) := ⟨fun p hp => toPy4 (c.e _ hp.1) (d.e _ hp.2.1) (e.e _ hp.2.2.1) (o.e _ hp.2.2.2), fun p hp => by
  have h1 := c.l _ hp.1
  have h2 := d.l _ hp.2.1
  have h3 := e.l _ hp.2.2.1
  have h4 := o.l _ hp.2.2.2
  refine ⟨by simp [PyData.canLay0, PyData.canLayAll0, h1.1, h2.1, h3.1, h4.1], ?_⟩
  simp only [PyData.depth, PyData.depthAll]
  omega, fun p q hp hq => by
  simp only [PyData.eqv, PyData.eqvAll, c.q _ _ hp.1 hq.1, d.q _ _ hp.2.1 hq.2.1, e.q _ _ hp.2.2.1 hq.2.2.1, o.q _ _ hp.2.2.2 hq.2.2.2]
  by_cases h1 : p.1 = q.1 <;> by_cases h2 : p.2.1 = q.2.1 <;> by_cases h3 : p.2.2.1 = q.2.2.1 <;> by_cases h4 : p.2.2.2 = q.2.2.2 <;> simp [h1, h2, h3, h4, Prod.ext_iff]⟩
theorem eq_cd (c : Cd P f n py) (hn : n ≤ 64) {a b : α} (ha : P a) (hb : P b) (hf : eqFlat (f a) (f b) = none) : eqB (f a) (f b) = .ok (decide (a = b)) := by
  have sh : ∀ a, P a → SeqAt.shaped (py a) = true := fun a ha => by
    obtain ⟨h1, h2⟩ := c.l a ha
    unfold SeqAt.shaped
    rw [h1, decide_eq_true (by omega)]
    rfl
  unfold eqB
  rw [hf]
  dsimp only
  unfold eqDeep
  rw [c.e a ha, c.e b hb]
  dsimp only
  rw [if_pos ⟨sh a ha, sh b hb⟩, c.q a b ha hb]
theorem rs_eqC {Q : D → Prop} {E : Str → List Str → List D → Prop} (c : Cd P f n py) (hn : n ≤ 64) {a b : α} (ha : P a) (hb : P b) (hf : eqFlat (f a) (f b) = none) (q : Q (.bl (decide (a = b)))) : Rs (eqD (f a) (f b)) Q E := by
  unfold eqD
  rw [eq_cd c hn ha hb hf]
  exact q
theorem rs_neC {Q : D → Prop} {E : Str → List Str → List D → Prop} (c : Cd P f n py) (hn : n ≤ 64) {a b : α} (ha : P a) (hb : P b) (hf : eqFlat (f a) (f b) = none) (q : Q (.bl (!decide (a = b)))) : Rs (neD (f a) (f b)) Q E := by
  unfold neD
  rw [eq_cd c hn ha hb hf]
  exact q
end
end
section
theorem ss_fst0 {i : Nat} {n fl : Str} {f : Rho → Res D} {ns ns' : List Str} {vs vs' : List D} {d : D} {r : Rho} {N B C : Rho → Prop} {R : D → Prop} {E : Rho → Str → List Str → List D → Prop} (hf : Rs (f r) (fun x => x = d) (E r)) (h1 : r[i]? = some (some (.obj n ns vs))) (hn : ns.length < 1000) (hp : putN fl d ns vs = (ns', vs')) (h : N (r.set i (some (.obj n ns' vs')))) : Ss (fstF i n fl f r) N R B C E :=
  ss_fst (ns := ns) (vs := vs) (hf.impE (fun x e => by subst e; refine ⟨h1, hn, ?_⟩; rw [hp]; exact h) fun _ _ _ z => z)
def rkD (b : Bool) (m k i : Int) : D := .obj "Rank" ["firm", "marks", "kinds", "index"] [.bl b, .int m, .int k, .int i]
theorem rank_init (b : Bool) (m k i : Int) : F_Rank_init [.bl b, .int m, .int k, .int i] = .ok (rkD b m k i) := Rs.eq (by
  refine rs_runI ?_
  unfold Fb_Rank_init
  show Ss (seqF _ _ [some (.obj "Rank" [] []), some (.bl b), some (.int m), some (.int k), some (.int i)]) _ _ _ _ _
  refine ss_seq (ss_fst0 (ns := []) (vs := []) (ns' := ["firm"]) (vs' := [.bl b]) (rs_var rfl rfl) rfl (by decide) rfl ?_)
  refine ss_seq (ss_fst0 (ns := ["firm"]) (vs := [.bl b]) (ns' := ["firm", "marks"]) (vs' := [.bl b, .int m]) (rs_var rfl rfl) rfl (by decide) (by rfl) ?_)
  refine ss_seq (ss_fst0 (ns := ["firm", "marks"]) (vs := [.bl b, .int m]) (ns' := ["firm", "marks", "kinds"]) (vs' := [.bl b, .int m, .int k]) (rs_var rfl rfl) rfl (by decide) (by rfl) ?_)
  refine ss_fst0 (ns := ["firm", "marks", "kinds"]) (vs := [.bl b, .int m, .int k]) (ns' := ["firm", "marks", "kinds", "index"]) (vs' := [.bl b, .int m, .int k, .int i]) (rs_var rfl rfl) rfl (by decide) (by rfl) ?_
  exact ⟨_, rfl, rfl⟩)
theorem rank_parts (b : Bool) (m k i : Int) : F_Rank_parts [rkD b m k i] = .ok (.tup [.bl b, .int m, .int k, .int i]) := Rs.eq (by
  refine rs_run ?_
  unfold Fb_Rank_parts
  show Ss (retF _ [some (rkD b m k i)]) _ _ _ _ _
  refine ss_ret (rs_tup (rs_cons (rs_un (rs_var (d := rkD b m k i) rfl (rs_fld rfl ?_)))))
  refine rs_cons (rs_un (rs_var (d := rkD b m k i) rfl (rs_fld rfl ?_)))
  refine rs_cons (rs_un (rs_var (d := rkD b m k i) rfl (rs_fld rfl ?_)))
  refine rs_cons (rs_un (rs_var (d := rkD b m k i) rfl (rs_fld rfl ?_)))
  exact rs_nil ⟨Nat.le_of_ble_eq_true rfl, rfl⟩)
theorem rs_isR {b : Bool} {m k i : Int} {Q : D → Prop} {E : Str → List Str → List D → Prop} (q : Q (.bl true)) : Rs (isiO "Rank" (rkD b m k i)) Q E := by
  unfold isiO
  rw [if_pos (show isCls "Rank" (rkD b m k i) = true from isCls_self)]
  exact q
def rkN (b : Bool) (m k i : Int) : List NB := [.b b, .i m, .i k, .i i]
theorem rk_likes (b b' : Bool) (m m' k k' i i' : Int) : likes (rkN b m k i) (rkN b' m' k' i') := by
  refine ⟨rfl, fun j h1 h2 => ?_⟩
  match j, h1 with
  | 0, _ => rfl
  | 1, _ => rfl
  | 2, _ => rfl
  | 3, _ => rfl
theorem rs_parts {r : Rho} {a : Nat} {b : Bool} {m k i : Int} {Q : D → Prop} {E : Str → List Str → List D → Prop} (h : r[a]? = some (some (rkD b m k i))) (q : Q (.tup ((rkN b m k i).map NB.d))) : Rs (dMeth "Rank" "parts" F_Rank_parts (dVar a) dNil r) Q E :=
  rs_meth (rs_var h (rs_isObj (by decide) (rs_nil (Rs.of (rank_parts b m k i) q))))
theorem rank_lt (b b' : Bool) (m m' k k' i i' : Int) : F_Rank_lt [rkD b m k i, rkD b' m' k' i'] = .ok (.bl (lexLt (rkN b m k i) (rkN b' m' k' i'))) := Rs.eq (by
  refine rs_run ?_
  unfold Fb_Rank_lt
  show Ss (seqF _ _ [some (rkD b m k i), some (rkD b' m' k' i')]) _ _ _ _ _
  refine ss_seq (ss_if (rs_not (rs_T (rs_un (rs_var (d := rkD b' m' k' i') rfl (rs_isR (rs_asB ⟨fun z => (by cases z), fun _ => ss_nx ?_⟩)))))))
  exact ss_ret (rs_op (rs_parts rfl (rs_parts rfl (rs_ordT (rk_likes _ _ _ _ _ _ _ _) rfl)))))
theorem rank_le (b b' : Bool) (m m' k k' i i' : Int) : F_Rank_le [rkD b m k i, rkD b' m' k' i'] = .ok (.bl (lexLtE (rkN b m k i) (rkN b' m' k' i'))) := Rs.eq (by
  refine rs_run ?_
  unfold Fb_Rank_le
  show Ss (seqF _ _ [some (rkD b m k i), some (rkD b' m' k' i')]) _ _ _ _ _
  refine ss_seq (ss_if (rs_not (rs_T (rs_un (rs_var (d := rkD b' m' k' i') rfl (rs_isR (rs_asB ⟨fun z => (by cases z), fun _ => ss_nx ?_⟩)))))))
  exact ss_ret (rs_op (rs_parts rfl (rs_parts rfl (rs_ordT (rk_likes _ _ _ _ _ _ _ _) rfl)))))
theorem rank_gt (b b' : Bool) (m m' k k' i i' : Int) : F_Rank_gt [rkD b m k i, rkD b' m' k' i'] = .ok (.bl (lexGt (rkN b m k i) (rkN b' m' k' i'))) := Rs.eq (by
  refine rs_run ?_
  unfold Fb_Rank_gt
  show Ss (seqF _ _ [some (rkD b m k i), some (rkD b' m' k' i')]) _ _ _ _ _
  refine ss_seq (ss_if (rs_not (rs_T (rs_un (rs_var (d := rkD b' m' k' i') rfl (rs_isR (rs_asB ⟨fun z => (by cases z), fun _ => ss_nx ?_⟩)))))))
  exact ss_ret (rs_op (rs_parts rfl (rs_parts rfl (rs_ordT (rk_likes _ _ _ _ _ _ _ _) rfl)))))
theorem rank_ge (b b' : Bool) (m m' k k' i i' : Int) : F_Rank_ge [rkD b m k i, rkD b' m' k' i'] = .ok (.bl (lexGtE (rkN b m k i) (rkN b' m' k' i'))) := Rs.eq (by
  refine rs_run ?_
  unfold Fb_Rank_ge
  show Ss (seqF _ _ [some (rkD b m k i), some (rkD b' m' k' i')]) _ _ _ _ _
  refine ss_seq (ss_if (rs_not (rs_T (rs_un (rs_var (d := rkD b' m' k' i') rfl (rs_isR (rs_asB ⟨fun z => (by cases z), fun _ => ss_nx ?_⟩)))))))
  exact ss_ret (rs_op (rs_parts rfl (rs_parts rfl (rs_ordT (rk_likes _ _ _ _ _ _ _ _) rfl)))))
theorem rank_eq (b b' : Bool) (m m' k k' i i' : Int) : F_Rank_eq [rkD b m k i, rkD b' m' k' i'] = .ok (.bl (decide ((b, m, k, i) = (b', m', k', i')))) := Rs.eq (by
  refine rs_run ?_
  unfold Fb_Rank_eq
  show Ss (seqF _ _ [some (rkD b m k i), some (rkD b' m' k' i')]) _ _ _ _ _
  refine ss_seq (ss_if (rs_not (rs_T (rs_un (rs_var (d := rkD b' m' k' i') rfl (rs_isR (rs_asB ⟨fun z => (by cases z), fun _ => ss_nx ?_⟩)))))))
  refine ss_ret (rs_op (rs_parts rfl (rs_parts rfl ?_)))
  exact rs_eqC (cd_p4 cd_bl cd_int cd_int cd_int) (by omega) (a := (b, m, k, i)) (b := (b', m', k', i')) ⟨trivial, trivial, trivial, trivial⟩ ⟨trivial, trivial, trivial, trivial⟩ rfl rfl)
theorem rank_ne (b b' : Bool) (m m' k k' i i' : Int) : F_Rank_ne [rkD b m k i, rkD b' m' k' i'] = .ok (.bl (!decide ((b, m, k, i) = (b', m', k', i')))) := Rs.eq (by
  refine rs_run ?_
  unfold Fb_Rank_ne
  show Ss (seqF _ _ [some (rkD b m k i), some (rkD b' m' k' i')]) _ _ _ _ _
  refine ss_seq (ss_if (rs_not (rs_T (rs_un (rs_var (d := rkD b' m' k' i') rfl (rs_isR (rs_asB ⟨fun z => (by cases z), fun _ => ss_nx ?_⟩)))))))
  refine ss_ret (rs_op (rs_parts rfl (rs_parts rfl ?_)))
  exact rs_neC (cd_p4 cd_bl cd_int cd_int cd_int) (by omega) (a := (b, m, k, i)) (b := (b', m', k', i')) ⟨trivial, trivial, trivial, trivial⟩ ⟨trivial, trivial, trivial, trivial⟩ rfl rfl)
theorem ni_tt (b : Bool) (m k i : Int) (ds : List D) : Tt_Rank_eq (startR 2 [rkD b m k i, .tup ds]) = .ok true ∧ Tt_Rank_ne (startR 2 [rkD b m k i, .tup ds]) = .ok true := by
  have g : ∀ {r : Rho}, r = [some (rkD b m k i), some (.tup ds)] → dNot (dT (dUn (isiO "Rank") (dVar 1))) r = .ok true := fun {r} e => by
    subst e
    rfl
  exact ⟨g rfl, g rfl⟩
end
section
def prD (b : Bool) (m k i : Int) : D := .tup [.bl b, .int m, .int k, .int i]
def ordI (b : Bool) (m k i : Int) (b' : Bool) (m' k' i' : Int) : Int := if OT.nbI b ≠ OT.nbI b' then OT.nbI b - OT.nbI b' else if m ≠ m' then m - m' else if k ≠ k' then k - k' else if i ≠ i' then i - i' else 0
theorem order_eq (b b' : Bool) (m m' k k' i i' : Int) : F_l_order [prD b m k i, prD b' m' k' i'] = .ok (.int (ordI b m k i b' m' k' i')) := Rs.eq (by
  refine rs_run ?_
  unfold Fb_l_order
  show Ss (seqF _ _ [some (prD b m k i), some (prD b' m' k' i'), none]) _ _ _ _ _
  refine ss_seq (ss_rng 4 (fun j r => (∃ x, r = [some (prD b m k i), some (prD b' m' k' i'), x]) ∧ (0 < j → OT.nbI b = OT.nbI b') ∧ (1 < j → m = m') ∧ (2 < j → k = k') ∧ (3 < j → i = i')) (rs_c rfl) (by omega) ⟨⟨_, rfl⟩, by omega, by omega, by omega, by omega⟩ ?_ ?_)
  · rintro j r hj ⟨⟨x, rfl⟩, h0, h1, h2, h3⟩
    unfold Lp_l_order_1
    obtain rfl | rfl | rfl | rfl : j = 0 ∨ j = 1 ∨ j = 2 ∨ j = 3 := by omega
    · refine ss_if (rs_T (rs_op (rs_call (rs_cons (rs_op (rs_var rfl (rs_var rfl (rs_ixT (d := .bl b) (atI_nat (j := 0) rfl) (rs_nil (rs_intB ?_))))))))))
      refine rs_call (rs_cons (rs_op (rs_var rfl (rs_var rfl (rs_ixT (d := .bl b') (atI_nat (j := 0) rfl) (rs_nil (rs_intB (rs_neI (rs_asB ⟨fun z => ?_, fun z => ss_nx ?_⟩)))))))))
      · have z : OT.nbI b ≠ OT.nbI b' := by simpa [OT.nbI] using z
        refine ss_ret (rs_op (rs_call (rs_cons (rs_op (rs_var rfl (rs_var rfl (rs_ixT (d := .bl b) (atI_nat (j := 0) rfl) (rs_nil (rs_intB ?_)))))))))
        refine rs_call (rs_cons (rs_op (rs_var rfl (rs_var rfl (rs_ixT (d := .bl b') (atI_nat (j := 0) rfl) (rs_nil (rs_intB (rs_sub ?_))))))))
        show D.int _ = D.int (ordI b m k i b' m' k' i')
        unfold ordI
        rw [if_pos z]
        rfl
      · have z : OT.nbI b = OT.nbI b' := by simpa [OT.nbI] using z
        exact ⟨⟨_, rfl⟩, fun _ => z, by omega, by omega, by omega⟩
    · refine ss_if (rs_T (rs_op (rs_call (rs_cons (rs_op (rs_var rfl (rs_var rfl (rs_ixT (d := .int m) (atI_nat (j := 1) rfl) (rs_nil (rs_int ?_))))))))))
      refine rs_call (rs_cons (rs_op (rs_var rfl (rs_var rfl (rs_ixT (d := .int m') (atI_nat (j := 1) rfl) (rs_nil (rs_int (rs_neI (rs_asB ⟨fun z => ?_, fun z => ss_nx ?_⟩)))))))))
      · have z : m ≠ m' := by simpa [OT.nbI] using z
        refine ss_ret (rs_op (rs_call (rs_cons (rs_op (rs_var rfl (rs_var rfl (rs_ixT (d := .int m) (atI_nat (j := 1) rfl) (rs_nil (rs_int ?_)))))))))
        refine rs_call (rs_cons (rs_op (rs_var rfl (rs_var rfl (rs_ixT (d := .int m') (atI_nat (j := 1) rfl) (rs_nil (rs_int (rs_sub ?_))))))))
        show D.int _ = D.int (ordI b m k i b' m' k' i')
        unfold ordI
        rw [if_neg (Classical.not_not.mpr (h0 (by omega))), if_pos z]
      · have z : m = m' := by simpa [OT.nbI] using z
        exact ⟨⟨_, rfl⟩, fun _ => h0 (by omega), fun _ => z, by omega, by omega⟩
    · refine ss_if (rs_T (rs_op (rs_call (rs_cons (rs_op (rs_var rfl (rs_var rfl (rs_ixT (d := .int k) (atI_nat (j := 2) rfl) (rs_nil (rs_int ?_))))))))))
      refine rs_call (rs_cons (rs_op (rs_var rfl (rs_var rfl (rs_ixT (d := .int k') (atI_nat (j := 2) rfl) (rs_nil (rs_int (rs_neI (rs_asB ⟨fun z => ?_, fun z => ss_nx ?_⟩)))))))))
      · have z : k ≠ k' := by simpa [OT.nbI] using z
        refine ss_ret (rs_op (rs_call (rs_cons (rs_op (rs_var rfl (rs_var rfl (rs_ixT (d := .int k) (atI_nat (j := 2) rfl) (rs_nil (rs_int ?_)))))))))
        refine rs_call (rs_cons (rs_op (rs_var rfl (rs_var rfl (rs_ixT (d := .int k') (atI_nat (j := 2) rfl) (rs_nil (rs_int (rs_sub ?_))))))))
        show D.int _ = D.int (ordI b m k i b' m' k' i')
        unfold ordI
        rw [if_neg (Classical.not_not.mpr (h0 (by omega))), if_neg (Classical.not_not.mpr (h1 (by omega))), if_pos z]
      · have z : k = k' := by simpa [OT.nbI] using z
        exact ⟨⟨_, rfl⟩, fun _ => h0 (by omega), fun _ => h1 (by omega), fun _ => z, by omega⟩
    · refine ss_if (rs_T (rs_op (rs_call (rs_cons (rs_op (rs_var rfl (rs_var rfl (rs_ixT (d := .int i) (atI_nat (j := 3) rfl) (rs_nil (rs_int ?_))))))))))
      refine rs_call (rs_cons (rs_op (rs_var rfl (rs_var rfl (rs_ixT (d := .int i') (atI_nat (j := 3) rfl) (rs_nil (rs_int (rs_neI (rs_asB ⟨fun z => ?_, fun z => ss_nx ?_⟩)))))))))
      · have z : i ≠ i' := by simpa [OT.nbI] using z
        refine ss_ret (rs_op (rs_call (rs_cons (rs_op (rs_var rfl (rs_var rfl (rs_ixT (d := .int i) (atI_nat (j := 3) rfl) (rs_nil (rs_int ?_)))))))))
        refine rs_call (rs_cons (rs_op (rs_var rfl (rs_var rfl (rs_ixT (d := .int i') (atI_nat (j := 3) rfl) (rs_nil (rs_int (rs_sub ?_))))))))
        show D.int _ = D.int (ordI b m k i b' m' k' i')
        unfold ordI
        rw [if_neg (Classical.not_not.mpr (h0 (by omega))), if_neg (Classical.not_not.mpr (h1 (by omega))), if_neg (Classical.not_not.mpr (h2 (by omega))), if_pos z]
      · have z : i = i' := by simpa [OT.nbI] using z
        exact ⟨⟨_, rfl⟩, fun _ => h0 (by omega), fun _ => h1 (by omega), fun _ => h2 (by omega), fun _ => z⟩
  · rintro r ⟨⟨x, rfl⟩, h0, h1, h2, h3⟩
    refine ss_ret (rs_c ?_)
    unfold ordI
    rw [if_neg (Classical.not_not.mpr (h0 (by omega))), if_neg (Classical.not_not.mpr (h1 (by omega))), if_neg (Classical.not_not.mpr (h2 (by omega))), if_neg (Classical.not_not.mpr (h3 (by omega)))])
end
section
theorem lex4 {e r : Nat → Bool} {z : Bool} : Ob.lexAt e r z 0 4 = if e 0 = true then (if e 1 = true then (if e 2 = true then (if e 3 = true then z else r 3) else r 2) else r 1) else r 0 := rfl
section
variable {b b' : Bool} {m m' k k' i i' : Int}
theorem lex_Lt : Dx.lexLt (rkN b m k i) (rkN b' m' k' i') = decide (ordI b m k i b' m' k' i' < 0) := by
  unfold Dx.lexLt ordI
  rw [show (rkN b m k i).length = 4 from rfl, lex4]
  show (if decide (OT.nbI b = OT.nbI b') = true then (if decide (m = m') = true then (if decide (k = k') = true then (if decide (i = i') = true then _ else decide (i < i')) else decide (k < k')) else decide (m < m')) else decide (OT.nbI b < OT.nbI b')) = _
  generalize OT.nbI b = x
  generalize OT.nbI b' = x'
  by_cases h0 : x = x'
  · by_cases h1 : m = m'
    · by_cases h2 : k = k'
      · by_cases h3 : i = i'
        · simp [h0, h1, h2, h3]
        · simp [h0, h1, h2, h3]
          all_goals omega
      · simp [h0, h1, h2]
        all_goals omega
    · simp [h0, h1]
      all_goals omega
  · simp [h0]
    all_goals omega
theorem lex_LtE : lexLtE (rkN b m k i) (rkN b' m' k' i') = decide (ordI b m k i b' m' k' i' ≤ 0) := by
  unfold lexLtE ordI
  rw [show (rkN b m k i).length = 4 from rfl, lex4]
  show (if decide (OT.nbI b = OT.nbI b') = true then (if decide (m = m') = true then (if decide (k = k') = true then (if decide (i = i') = true then _ else decide (i ≤ i')) else decide (k ≤ k')) else decide (m ≤ m')) else decide (OT.nbI b ≤ OT.nbI b')) = _
  generalize OT.nbI b = x
  generalize OT.nbI b' = x'
  by_cases h0 : x = x'
  · by_cases h1 : m = m'
    · by_cases h2 : k = k'
      · by_cases h3 : i = i'
        · simp [h0, h1, h2, h3]
        · simp [h0, h1, h2, h3]
          all_goals omega
      · simp [h0, h1, h2]
        all_goals omega
    · simp [h0, h1]
      all_goals omega
  · simp [h0]
    all_goals omega
theorem lex_Gt : lexGt (rkN b m k i) (rkN b' m' k' i') = decide (ordI b m k i b' m' k' i' > 0) := by
  unfold lexGt ordI
  rw [show (rkN b m k i).length = 4 from rfl, lex4]
  show (if decide (OT.nbI b = OT.nbI b') = true then (if decide (m = m') = true then (if decide (k = k') = true then (if decide (i = i') = true then _ else decide (i' < i)) else decide (k' < k)) else decide (m' < m)) else decide (OT.nbI b' < OT.nbI b)) = _
  generalize OT.nbI b = x
  generalize OT.nbI b' = x'
  by_cases h0 : x = x'
  · by_cases h1 : m = m'
    · by_cases h2 : k = k'
      · by_cases h3 : i = i'
        · simp [h0, h1, h2, h3]
        · simp [h0, h1, h2, h3]
          all_goals omega
      · simp [h0, h1, h2]
        all_goals omega
    · simp [h0, h1]
      all_goals omega
  · simp [h0]
    all_goals omega
theorem lex_GtE : lexGtE (rkN b m k i) (rkN b' m' k' i') = decide (ordI b m k i b' m' k' i' ≥ 0) := by
  unfold lexGtE ordI
  rw [show (rkN b m k i).length = 4 from rfl, lex4]
  show (if decide (OT.nbI b = OT.nbI b') = true then (if decide (m = m') = true then (if decide (k = k') = true then (if decide (i = i') = true then _ else decide (i' ≤ i)) else decide (k' ≤ k)) else decide (m' ≤ m)) else decide (OT.nbI b' ≤ OT.nbI b)) = _
  generalize OT.nbI b = x
  generalize OT.nbI b' = x'
  by_cases h0 : x = x'
  · by_cases h1 : m = m'
    · by_cases h2 : k = k'
      · by_cases h3 : i = i'
        · simp [h0, h1, h2, h3]
        · simp [h0, h1, h2, h3]
          all_goals omega
      · simp [h0, h1, h2]
        all_goals omega
    · simp [h0, h1]
      all_goals omega
  · simp [h0]
    all_goals omega
theorem eq_ord : decide ((b, m, k, i) = (b', m', k', i')) = decide (ordI b m k i b' m' k' i' = 0) := by
  refine decide_eq_decide.mpr ?_
  unfold ordI
  have hb : OT.nbI b = OT.nbI b' ↔ b = b' := by cases b <;> cases b' <;> simp [OT.nbI]
  constructor
  · intro h
    cases h
    simp
  · intro h
    split at h
    · omega
    · split at h
      · omega
      · split at h
        · omega
        · split at h
          · omega
          · rename_i h0 h1 h2 h3
            rw [hb.mp (Classical.not_not.mp h0), Classical.not_not.mp h1, Classical.not_not.mp h2, Classical.not_not.mp h3]
end
end
section
theorem rs_bin2 {F : List D → Res D} {f g : Rho → Res D} {r : Rho} {b b' c : Bool} {m m' k k' i i' : Int} {Q : D → Prop} {E : Str → List Str → List D → Prop} (h1 : f r = .ok (rkD b m k i)) (h2 : g r = .ok (rkD b' m' k' i')) (hF : F [rkD b m k i, rkD b' m' k' i'] = .ok (.bl c)) (q : Q (.bl c)) : Rs (dOp (binO "Rank" F) f g r) Q E := by
  refine rs_op (Rs.of h1 (Rs.of h2 ?_))
  unfold binO
  rw [if_pos ⟨show isCls "Rank" (rkD b m k i) = true from isCls_self, show isCls "Rank" (rkD b' m' k' i') = true from isCls_self⟩, hF]
  exact q
theorem compared_eq (b b' : Bool) (m m' k k' i i' : Int) : F_l_compared [rkD b m k i, rkD b' m' k' i', .int (ordI b m k i b' m' k' i')] = .ok (.bl true) := Rs.eq (by
  have t0 := rank_eq b b' m m' k k' i i'
  have t1 := rank_ne b b' m m' k k' i i'
  have t2 := rank_lt b b' m m' k k' i i'
  have t3 := rank_le b b' m m' k k' i i'
  have t4 := rank_gt b b' m m' k k' i i'
  have t5 := rank_ge b b' m m' k k' i i'
  rw [eq_ord] at t0 t1
  rw [lex_Lt] at t2
  rw [lex_LtE] at t3
  rw [lex_Gt] at t4
  rw [lex_GtE] at t5
  generalize ordI b m k i b' m' k' i' = o at t0 t1 t2 t3 t4 t5 ⊢
  refine rs_run ?_
  unfold Fb_l_compared
  show Ss (seqF _ _ [some (rkD b m k i), some (rkD b' m' k' i'), some (.int o), none, none, none]) _ _ _ _ _
  refine ss_seq (ss_set (rs_lst (rs_cons (rs_bin2 rfl rfl t0 (rs_cons (rs_bin2 rfl rfl t1 (rs_cons (rs_bin2 rfl rfl t2 (rs_cons (rs_bin2 rfl rfl t3 (rs_cons (rs_bin2 rfl rfl t4 (rs_cons (rs_bin2 rfl rfl t5 (rs_nil ⟨Nat.le_of_ble_eq_true rfl, ?_⟩)))))))))))))))
  refine ss_seq (ss_set (rs_lst (rs_cons (rs_op (rs_var rfl (rs_c (rs_eqI (rs_cons (rs_op (rs_var rfl (rs_c (rs_neI ?_))))))))))))
  refine rs_cons (rs_op (rs_var rfl (rs_c (rs_lt (rs_cons (rs_op (rs_var rfl (rs_c (rs_le ?_)))))))))
  refine rs_cons (rs_op (rs_var rfl (rs_c (rs_gt (rs_cons (rs_op (rs_var rfl (rs_c (rs_ge (rs_nil ⟨Nat.le_of_ble_eq_true rfl, ?_⟩))))))))))
  have go : ∀ cs : List Bool, cs.length = 6 → Ss (seqF (forF (dIts rng1 (dCons (dC (.int 6)) dNil)) (tgN 5) Lp_l_compared_1) (retF (dC (.bl true))) [some (rkD b m k i), some (rkD b' m' k' i'), some (.int o), some (.lst (cs.map D.bl)), some (.lst (cs.map D.bl)), none]) (fun _ => D.non = D.bl true) (fun d => d = D.bl true) nR nR fun _ => nE := fun cs hl => by
    refine ss_seq (ss_rng 6 (fun j r => ∃ x, r = [some (rkD b m k i), some (rkD b' m' k' i'), some (.int o), some (.lst (cs.map D.bl)), some (.lst (cs.map D.bl)), x]) (rs_c rfl) (by omega) ⟨_, rfl⟩ ?_ ?_)
    · rintro j r hj ⟨x, rfl⟩
      unfold Lp_l_compared_1
      have hlt : j < cs.length := by omega
      have ix : atI (cs.map D.bl) (j : Int) = some (.bl cs[j]) := atI_nat (by rw [List.getElem?_map, List.getElem?_eq_getElem hlt]; rfl)
      refine ss_if (rs_or (rs_not (rs_T (rs_un (rs_op (rs_var rfl (rs_var rfl (rs_ixL ix (rs_isi_bl_bool (rs_asB ?_))))))))))
      refine rs_T (rs_op (rs_op (rs_var rfl (rs_var rfl (rs_ixL ix (rs_op (rs_var rfl (rs_var rfl (rs_ixL ix (rs_neB (rs_asB ⟨fun z => ?_, fun _ => ss_nx ⟨_, rfl⟩⟩)))))))))))
      simp at z
    · rintro r ⟨x, rfl⟩
      exact ss_ret (rs_c rfl)
  exact go [decide (o = 0), !decide (o = 0), decide (o < 0), decide (o ≤ 0), decide (0 < o), decide (0 ≤ o)] rfl)
end
section
theorem rs_isB1 {x y : Bool} {Q : D → Prop} {E : Str → List Str → List D → Prop} (q : Q (.bl (decide (x = y)))) : Rs (isBD false (.bl x) (.bl y)) Q E := q
theorem number_eq (n : Int) : F_l_number [.int n] = .ok (.bl true) := Rs.eq (by
  refine rs_run ?_
  unfold Fb_l_number
  array_get_dec
  rfl)
theorem fields_eq (b : Bool) (m k i : Int) : F_l_fields [rkD b m k i, prD b m k i] = .ok (.bl true) := Rs.eq (by
  refine rs_run ?_
  unfold Fb_l_fields
  show Ss (seqF _ _ [some (rkD b m k i), some (prD b m k i), none, none]) _ _ _ _ _
  refine ss_seq (ss_if (rs_or (rs_not (rs_T (rs_un (rs_var (d := rkD b m k i) rfl (rs_isR (rs_asB ?_))))))))
  refine rs_or (rs_not (rs_T (rs_un (rs_un (rs_var (d := rkD b m k i) rfl (rs_fld (d := .bl b) rfl (rs_isi_bl_bool (rs_asB ?_))))))))
  refine rs_T (rs_op (rs_un (rs_var (d := rkD b m k i) rfl (rs_fld (d := .bl b) rfl ?_))))
  refine rs_op (rs_var (d := prD b m k i) rfl (rs_c (rs_ixT (d := .bl b) (atI_nat (j := 0) rfl) (rs_neB (rs_asB ⟨fun z => ?_, fun _ => ss_nx ?_⟩)))))
  · simp at z
  refine ss_seq (ss_set (rs_lst (rs_cons (rs_un (rs_var (d := rkD b m k i) rfl (rs_fld (d := .int m) rfl ?_))))))
  refine rs_cons (rs_un (rs_var (d := rkD b m k i) rfl (rs_fld (d := .int k) rfl ?_)))
  refine rs_cons (rs_un (rs_var (d := rkD b m k i) rfl (rs_fld (d := .int i) rfl (rs_nil ⟨Nat.le_of_ble_eq_true rfl, ?_⟩))))
  refine ss_seq (ss_rng 3 (fun j r => ∃ x, r = [some (rkD b m k i), some (prD b m k i), some (.lst [.int m, .int k, .int i]), x]) (rs_c rfl) (by omega) ⟨_, rfl⟩ ?_ ?_)
  · rintro j r hj ⟨x, rfl⟩
    unfold Lp_l_fields_1
    have one : ∀ (v : Int) {B C : Rho → Prop}, atI [D.int m, .int k, .int i] (j : Int) = some (.int v) → atI [D.bl b, .int m, .int k, .int i] ((j : Int) + 1) = some (.int v) → Ss (ifF (dOr (dNot (dT (dCall F_l_number (dCons (dOp ixD (dVar 2) (dVar 3)) dNil)))) (dT (dOp neD (dOp ixD (dVar 2) (dVar 3)) (dOp ixD (dVar 1) (dOp addD (dVar 3) (dC (.int 1))))))) (retF (dC (.bl false))) .nx [some (rkD b m k i), some (prD b m k i), some (.lst [.int m, .int k, .int i]), some (.int (j : Int))]) (fun r => ∃ x, r = [some (rkD b m k i), some (prD b m k i), some (.lst [.int m, .int k, .int i]), x]) (fun d => d = .bl true) B C fun _ => nE := fun v {B C} h1 h2 => by
      refine ss_if (rs_or (rs_not (rs_T (rs_call (rs_cons (rs_op (rs_var rfl (rs_var rfl (rs_ixL h1 (rs_nil (Rs.of (number_eq v) (rs_asB ?_))))))))))))
      refine rs_T (rs_op (rs_op (rs_var rfl (rs_var rfl (rs_ixL h1 (rs_op (rs_var (d := .tup [.bl b, .int m, .int k, .int i]) rfl (rs_op (rs_var rfl (rs_c (rs_add (rs_ixT h2 (rs_neI (rs_asB ⟨fun z => ?_, fun _ => ss_nx ⟨_, rfl⟩⟩))))))))))))))
      simp at z
    obtain rfl | rfl | rfl : j = 0 ∨ j = 1 ∨ j = 2 := by omega
    · exact one m (atI_nat (j := 0) rfl) (show atI _ ((1 : Nat) : Int) = _ from atI_nat (j := 1) rfl)
    · exact one k (atI_nat (j := 1) rfl) (show atI _ ((2 : Nat) : Int) = _ from atI_nat (j := 2) rfl)
    · exact one i (atI_nat (j := 2) rfl) (show atI _ ((3 : Nat) : Int) = _ from atI_nat (j := 3) rfl)
  · rintro r ⟨x, rfl⟩
    have ni := ni_tt b m k i [.bl b, .int m, .int k, .int i]
    have hc : isCls "Rank" (rkD b m k i) = true := isCls_self
    refine ss_ret (rs_andV (rs_op (rs_op (rs_var (d := rkD b m k i) rfl (rs_var (d := prD b m k i) rfl (rs_ni hc rfl ni.1 (rs_c (rs_isB1 (rs_asB ?_)))))))))
    exact rs_op (rs_op (rs_var (d := rkD b m k i) rfl (rs_var (d := prD b m k i) rfl (rs_ni hc rfl ni.2 (rs_c (rs_isB1 (rs_asB rfl))))))))
end
section
theorem eq_nil0 : eqB (.tup []) (.tup []) = .ok true := by
  unfold eqB
  rw [show eqFlat (.tup []) (.tup []) = none from rfl]
  dsimp only
  unfold eqDeep
  rw [show toPy (.tup []) = some (.tuple []) by rw [toPy, toPyL]; rfl]
  dsimp only
  rw [if_pos ⟨by decide, by decide⟩]
  simp [PyData.eqv, PyData.eqvAll]
theorem eq_nil4 (b : Bool) (m k i : Int) : eqB (prD b m k i) (.tup []) = .ok false := by
  unfold eqB
  rw [show eqFlat (prD b m k i) (.tup []) = none from rfl]
  dsimp only
  unfold eqDeep
  rw [show toPy (.tup []) = some (.tuple []) by rw [toPy, toPyL]; rfl, show toPy (prD b m k i) = some (.tuple [.bool b, .int m, .int k, .int i]) from toPy4 (by simp [toPy]) (by simp [toPy]) (by simp [toPy]) (by simp [toPy])]
  dsimp only
  rw [if_pos ⟨by simp [SeqAt.shaped, PyData.canLay0, PyData.canLayAll0, PyData.depth, PyData.depthAll], by decide⟩]
  simp [PyData.eqv, PyData.eqvAll]
theorem rs_eqN0 {Q : D → Prop} {E : Str → List Str → List D → Prop} (q : Q (.bl true)) : Rs (eqD (.tup []) (.tup [])) Q E := by
  unfold eqD; rw [eq_nil0]; exact q
theorem rs_eqN4 {b : Bool} {m k i : Int} {Q : D → Prop} {E : Str → List Str → List D → Prop} (q : Q (.bl false)) : Rs (eqD (prD b m k i) (.tup [])) Q E := by
  unfold eqD; rw [eq_nil4]; exact q
def LP : List Int := [7, 2, 5, 5, 12]
theorem parts_sp (c : Int) (d : D) (hd : d = .tup [] ∨ ∃ b m k i, d = prD b m k i) : Rs (F_l_parts [.int c, d]) (fun e => ∃ b m k i, e = prD b m k i) nE := by
  refine rs_run ?_
  unfold Fb_l_parts
  show Ss (seqF _ _ [some (.int c), some d, none, none, none]) _ _ _ _ _
  refine ss_seq (ss_set (rs_call (rs_cons (rs_var rfl (rs_cons (rs_lst (rs_cons (rs_c (rs_cons (rs_c (rs_cons (rs_c (rs_cons (rs_c (rs_cons (rs_c (rs_nil ⟨Nat.le_of_ble_eq_true rfl, rs_nil ?_⟩)))))))))))))))))
  show Rs (F_l_row [.int c, iL LP]) _ _
  refine row_of c LP (by decide) (by decide) fun vs hf => ?_
  obtain ⟨v0, hv0, h00, h01⟩ := hf.get (k := 0) (l := 7) rfl
  obtain ⟨v1, hv1, h10, h11⟩ := hf.get (k := 1) (l := 2) rfl
  obtain ⟨v2, hv2, h20, h21⟩ := hf.get (k := 2) (l := 5) rfl
  obtain ⟨v3, hv3, h30, h31⟩ := hf.get (k := 3) (l := 5) rfl
  obtain ⟨v4, hv4, h40, h41⟩ := hf.get (k := 4) (l := 12) rfl
  have ix : ∀ {k : Nat} {v i : Int} {Q : D → Prop} {E : Str → List Str → List D → Prop}, vs[k]? = some v → i = (k : Int) → Q (.int v) → Rs (ixD (iL vs) (.int i)) Q E := fun h e q => by
    subst e
    exact rs_ixL (atI_nat (by rw [List.getElem?_map, h]; rfl)) q
  refine ss_seq (ss_set (rs_tup (rs_cons (rs_op (rs_op (rs_var rfl (rs_c (ix hv1 rfl (rs_c (rs_eqI ?_))))))))))
  refine rs_cons (rs_op (rs_var rfl (rs_c (ix hv2 rfl ?_))))
  refine rs_cons (rs_op (rs_var rfl (rs_c (ix hv3 rfl ?_))))
  refine rs_cons (rs_op (rs_var rfl (rs_c (ix hv4 rfl (rs_nil ⟨Nat.le_of_ble_eq_true rfl, ?_⟩)))))
  show Ss (seqF _ _ [some (.int c), some d, some (iL vs), some (prD (decide (v1 = 1)) v2 v3 v4), none]) _ _ _ _ _
  rcases hd with rfl | ⟨b, m, k, i, rfl⟩
  · refine ss_seq (ss_if (rs_orc (rs_T (rs_op (rs_var rfl (rs_tup (rs_nil ⟨Nat.zero_le _, rs_eqN0 (rs_asB ⟨fun _ => ⟨fun _ => ?_, fun z => (by cases z)⟩, fun z => (by cases z)⟩)⟩)))))))
    exact ss_ret (rs_var (d := prD (decide (v1 = 1)) v2 v3 v4) rfl ⟨_, _, _, _, rfl⟩)
  · refine ss_seq (ss_if (rs_or (rs_T (rs_op (rs_var (d := prD b m k i) rfl (rs_tup (rs_nil ⟨Nat.zero_le _, rs_eqN4 (rs_asB ?_)⟩)))))))
    refine rs_T (rs_op (rs_op (rs_var rfl (rs_c (ix hv0 rfl (rs_c (rs_gt (rs_asB ⟨fun z => ?_, fun z => ss_nx ?_⟩))))))))
    · exact ss_ret (rs_var (d := prD (decide (v1 = 1)) v2 v3 v4) rfl ⟨_, _, _, _, rfl⟩)
    have z : ¬ (4 < v0) := by simpa using z
    have at4 : ∀ {b : Bool} {m k i : Int} {j : Nat} {Q : D → Prop} {E : Str → List Str → List D → Prop}, j < 4 → Q ([D.bl b, .int m, .int k, .int i].getD j .non) → Rs (ixD (prD b m k i) (.int (j : Int))) Q E := fun {b m k i j Q E} hj q => rs_ixT (atI_nat (by rw [List.getD_eq_getElem?_getD] at q; rw [List.getElem?_eq_getElem (by simpa using hj)])) (by rw [List.getD_eq_getElem?_getD, List.getElem?_eq_getElem (by simpa using hj)] at q; exact q)
    refine ss_ret (rs_call (rs_cons (rs_lc (fun j : Nat => D.int (j : Int)) (fun j : Nat => if (j : Int) = v0 then [D.bl (decide (v1 = 1)), .int v2, .int v3, .int v4].getD j .non else [D.bl b, .int m, .int k, .int i].getD j .non) (List.range 4) (rs_rngC (rs_c rfl) (by omega)) (Nat.le_trans (show _ ≤ 100000 by decide) sz5) (fun j hj => ⟨_, rfl, rfl, ?_⟩) (rs_nil (rs_tupL ?_)))))
    · have hj := List.mem_range.mp hj
      refine rs_ifx (rs_T (rs_op (rs_var (d := .int (j : Int)) rfl (rs_op (rs_var rfl (rs_c (ix hv0 rfl (rs_eqI (rs_asB ⟨fun z => ?_, fun z => ?_⟩)))))))))
      · refine rs_op (rs_var (d := prD (decide (v1 = 1)) v2 v3 v4) rfl (rs_var (d := .int (j : Int)) rfl (at4 hj ?_)))
        rw [if_pos (of_decide_eq_true z)]
      · refine rs_op (rs_var (d := prD b m k i) rfl (rs_var (d := .int (j : Int)) rfl (at4 hj ?_)))
        rw [if_neg (of_decide_eq_false z)]
    · obtain rfl | rfl | rfl | rfl | rfl : v0 = 0 ∨ v0 = 1 ∨ v0 = 2 ∨ v0 = 3 ∨ v0 = 4 := by omega
      all_goals exact ⟨_, _, _, _, rfl⟩
end
section
def nAsk (ts : List TT) : Nat := (ts.filter fun t => !decide (t.2 = [])).length
def nNam (ts : List TT) : Nat := (ts.filter fun t => !decide (t.1 = [42])).length
theorem nAsk_app (ts : List TT) (t : TT) : nAsk (ts ++ [t]) = nAsk ts + (if t.2 = [] then 0 else 1) := by
  unfold nAsk
  rw [List.filter_append, List.length_append]
  by_cases h : t.2 = [] <;> simp [h]
theorem nNam_app (ts : List TT) (t : TT) : nNam (ts ++ [t]) = nNam ts + (if t.1 = [42] then 0 else 1) := by
  unfold nNam
  rw [List.filter_append, List.length_append]
  by_cases h : t.1 = [42] <;> simp [h]
def LL : List Int := [3, 4, 3, 3, 4, 3, 3, 4, 3, 3, 6, 3]
def SEPS : List (List Nat) := [[32], [32, 62, 32], [32, 43, 32]]
def KDS : List (List Nat) := [[112, 97, 114], [101, 109], [42], [104, 101, 97, 100]]
def MKS : List (List Nat) := [[46, 97], [46, 98]]
def NMS : List (List Nat) := [[102, 97, 99, 101], [115, 105, 122, 101], [119, 105, 100, 101], [100, 114, 111, 112], [105, 110, 100, 101, 110, 116], [98, 101, 102, 111, 114, 101]]
def VLS : List (List Nat) := [[49], [50], [49]]
theorem ix_pick (L : List (List Nat)) {v : Int} {Q : D → Prop} {E : Str → List Str → List D → Prop} (h0 : 0 ≤ v) (h1 : v < (L.length : Int)) (q : ∀ w ∈ L, Q (wD w)) : Rs (ixD (.lst (L.map wD)) (.int v)) Q E := by
  obtain ⟨n, rfl⟩ : ∃ n : Nat, v = (n : Int) := ⟨v.toNat, by omega⟩
  have hn : n < L.length := by omega
  exact rs_ixL (atI_nat (by rw [List.getElem?_map, List.getElem?_eq_getElem hn]; rfl)) (q _ (List.getElem_mem hn))
theorem sep_of {w : List Nat} (h : w ∈ SEPS) : ∃ l, l ≠ Ln.st ∧ sepL l = w ∧ w.length ≤ 3 ∧ 58 ∉ w := by
  simp only [SEPS, List.mem_cons, List.not_mem_nil, or_false] at h
  rcases h with rfl | rfl | rfl
  · exact ⟨.an, by decide, rfl, by decide, by decide⟩
  · exact ⟨.pa, by decide, rfl, by decide, by decide⟩
  · exact ⟨.el, by decide, rfl, by decide, by decide⟩
theorem kd_of {w : List Nat} (h : w ∈ KDS) : KdOk w ∧ w.length ≤ 4 ∧ 58 ∉ w := by
  simp only [KDS, List.mem_cons, List.not_mem_nil, or_false] at h
  unfold KdOk Nm
  rcases h with rfl | rfl | rfl | rfl
  · exact ⟨.inr (by decide), by decide, by decide⟩
  · exact ⟨.inr (by decide), by decide, by decide⟩
  · exact ⟨.inl rfl, by decide, by decide⟩
  · exact ⟨.inr (by decide), by decide, by decide⟩
theorem mk_of {w : List Nat} (h : w ∈ MKS) : ∃ m, w = 46 :: m ∧ Nm m ∧ w.length ≤ 2 ∧ 58 ∉ w ∧ m ≠ [] := by
  simp only [MKS, List.mem_cons, List.not_mem_nil, or_false] at h
  unfold Nm
  rcases h with rfl | rfl
  · exact ⟨[97], rfl, by decide, by decide, by decide, by decide⟩
  · exact ⟨[98], rfl, by decide, by decide, by decide, by decide⟩
/-- the row read so far -/
def Stt (j : Nat) (x : List Nat) (ts : List TT) (ls : List Ln) : Prop := ts.length = j ∧ ls.length = j ∧ x.length ≤ 20 * j ∧ 58 ∉ x ∧ ((j = 0 ∧ x = [] ∧ ts = [] ∧ ls = []) ∨ (0 < j ∧ rdP (spc 32 x) .st [] [] = some (ts, ls, .an)))
structure LnOk (w : List Nat) (b : Bool) (ts : List TT) (ls : List Ln) (x nm v : List Nat) : Prop where
  e : w = x ++ [58, 32] ++ nm ++ [32] ++ v ++ (if b = true then [32, 102, 105, 114, 109] else [])
  st : ∃ j, 0 < j ∧ j ≤ 3 ∧ Stt j x ts ls
  nm : nm ∈ NMS
  v : v ∈ VLS
theorem line_sp (c idx : Int) : Rs (F_l_line [.int c, .int idx]) (fun e => ∃ w b ts ls x nm v, e = .lst [wD w, prD b (nAsk ts : Int) (nNam ts : Int) idx] ∧ LnOk w b ts ls x nm v) nE := by
  refine rs_run ?_
  unfold Fb_l_line
  show Ss (seqF _ _ [some (.int c), some (.int idx), none, none, none, none, none, none, none]) _ _ _ _ _
  refine ss_seq (ss_set (rs_call (rs_cons (rs_var rfl (rs_cons (rs_lst (rs_cons (rs_c (rs_cons (rs_c (rs_cons (rs_c (rs_cons (rs_c (rs_cons (rs_c (rs_cons (rs_c (rs_cons (rs_c (rs_cons (rs_c (rs_cons (rs_c (rs_cons (rs_c (rs_cons (rs_c (rs_cons (rs_c (rs_nil ⟨Nat.le_of_ble_eq_true rfl, rs_nil ?_⟩)))))))))))))))))))))))))))))))
  show Rs (F_l_row [.int c, iL LL]) _ _
  refine row_of c LL (by decide) (by decide) fun vs hf => ?_
  obtain ⟨v0, hv0, h00, h01⟩ := hf.get (k := 0) (l := 3) rfl
  obtain ⟨a, rfl⟩ : ∃ a : Nat, v0 = (a : Int) := ⟨v0.toNat, by omega⟩
  refine ss_seq (ss_set (rs_c ?_))
  refine ss_seq (ss_set (rs_c ?_))
  refine ss_seq (ss_set (rs_c ?_))
  refine ss_seq (ss_rng (a + 1) (fun j r => ∃ x ts ls x6 x7, r = [some (.int c), some (.int idx), some (iL vs), some (wD x), some (.int (nAsk ts : Int)), some (.int (nNam ts : Int)), x6, x7, none] ∧ Stt j x ts ls) ?_ (by omega) ⟨[], [], [], none, none, rfl, rfl, rfl, by simp, by simp, .inl ⟨rfl, rfl, rfl, rfl⟩⟩ ?_ ?_)
  · exact rs_op (rs_op (rs_var (d := iL vs) rfl (rs_c (rs_ixL (d := .int (a : Int)) (atI_nat (j := 0) (by rw [List.getElem?_map, hv0]; rfl)) (rs_c (rs_add rfl))))))
  · rintro j r hj ⟨x, ts, ls, x6, x7, rfl, h1, h2, h3, h4, h5⟩
    have hj3 : j ≤ 2 := by omega
    have hk0 : LL[3 * j]? = some 3 := by obtain rfl | rfl | rfl : j = 0 ∨ j = 1 ∨ j = 2 := by omega
                                         all_goals rfl
    have hk1 : LL[3 * j + 1]? = some 4 := by obtain rfl | rfl | rfl : j = 0 ∨ j = 1 ∨ j = 2 := by omega
                                             all_goals rfl
    have hk2 : LL[3 * j + 2]? = some 3 := by obtain rfl | rfl | rfl : j = 0 ∨ j = 1 ∨ j = 2 := by omega
                                             all_goals rfl
    show Ss (Lp_l_line_1 [some (.int c), some (.int idx), some (iL vs), some (wD x), some (.int (nAsk ts : Int)), some (.int (nNam ts : Int)), some (.int (j : Int)), x7, none]) _ _ _ _ _
    unfold Lp_l_line_1
    refine ss_seq (ss_cut (fun r => ∃ y, r = [some (.int c), some (.int idx), some (iL vs), some (wD y), some (.int (nAsk ts : Int)), some (.int (nNam ts : Int)), some (.int (j : Int)), x7, none] ∧ y.length ≤ 20 * j + 3 ∧ 58 ∉ y ∧ ∃ l, ∀ w t, Wd w t → rdP (spc 32 (y ++ w)) .st [] [] = some (ts ++ [t], ls ++ [l], .an)) ?_ ?_)
    · refine ss_if (rs_T (rs_op (rs_var rfl (rs_c (rs_gt (rs_asB ⟨fun z => ?_, fun z => ss_nx ?_⟩))))))
      · have z : 0 < j := by have := of_decide_eq_true z; omega
        refine ss_set (rs_op (rs_var (d := wD x) rfl (rs_op (rs_lst (rs_cons (rs_c (rs_cons (rs_c (rs_cons (rs_c (rs_nil ⟨Nat.le_of_ble_eq_true rfl, ?_⟩)))))))))))
        refine rs_op (rs_var (d := iL vs) rfl (rs_op (rs_c (rs_var (d := .int (j : Int)) rfl (rs_mul (Or.inr (small_of (by omega) (by omega))) ?_)))))
        refine ix_row hf hk0 (by omega) fun u _ u0 u1 => ix_pick SEPS u0 u1 fun s hs => ?_
        obtain ⟨l, hl, rfl, hs1, hs2⟩ := sep_of hs
        refine rs_addS (Nat.le_trans (show _ ≤ 100000 by omega) sz5) ⟨x ++ sepL l, rfl, by rw [List.length_append]; omega, fun m => (List.mem_append.mp m).elim h4 hs2, l, fun w t hw => ?_⟩
        rcases h5 with ⟨h5, _⟩ | ⟨_, h5⟩
        · omega
        · exact rdP_more hl h5 hw
      · have z : j = 0 := by have := of_decide_eq_false z; omega
        rcases h5 with ⟨_, rfl, rfl, rfl⟩ | ⟨h5, _⟩
        · exact ⟨[], rfl, by simp, by simp, .st, fun w t hw => rdP_first hw⟩
        · omega
    · rintro _ ⟨y, rfl, hy1, hy2, l, hy3⟩
      refine ss_seq (ss_set (rs_op (rs_lst (rs_cons (rs_c (rs_cons (rs_c (rs_cons (rs_c (rs_cons (rs_c (rs_nil ⟨Nat.le_of_ble_eq_true rfl, ?_⟩))))))))))))
      refine rs_op (rs_var (d := iL vs) rfl (rs_op (rs_op (rs_c (rs_var (d := .int (j : Int)) rfl (rs_mul (Or.inr (small_of (by omega) (by omega))) (rs_c (rs_add ?_))))))))
      refine ix_row hf hk1 (by omega) fun u _ u0 u1 => ix_pick KDS u0 u1 fun K hK => ?_
      obtain ⟨kd, hK1, hK2⟩ := kd_of hK
      refine ss_seq (ss_set (rs_op (rs_var (d := wD y) rfl (rs_var (d := wD K) rfl (rs_addS (Nat.le_trans (show _ ≤ 100000 by omega) sz5) ?_)))))
      refine ss_seq (ss_set (rs_op (rs_var (d := .int (nNam ts : Int)) rfl (rs_call (rs_cons (rs_op (rs_var (d := wD K) rfl (rs_c (rs_neS (rs_nil (rs_intB (rs_add ?_))))))))))))
      have eN : ∀ m, ((nNam (ts ++ [(K, m)]) : Nat) : Int) = (nNam ts : Int) + (if (!decide (K = [42])) = true then 1 else 0) := fun m => by
        rw [nNam_app]
        by_cases h : K = [42] <;> simp [h]
      refine ss_if (rs_T (rs_op (rs_op (rs_var (d := iL vs) rfl (rs_op (rs_op (rs_c (rs_var (d := .int (j : Int)) rfl (rs_mul (Or.inr (small_of (by omega) (by omega))) (rs_c (rs_add ?_)))))))))))
      refine ix_row hf hk2 (by omega) fun u hu u0 u1 => rs_c (rs_gt (rs_asB ⟨fun z => ?_, fun z => ss_nx ?_⟩))
      · have z := of_decide_eq_true z
        refine ss_seq (ss_set (rs_op (rs_var (d := wD (y ++ K)) rfl (rs_op (rs_lst (rs_cons (rs_c (rs_cons (rs_c (rs_nil ⟨Nat.le_of_ble_eq_true rfl, ?_⟩))))))))))
        refine rs_op (rs_op (rs_var (d := iL vs) rfl (rs_op (rs_op (rs_c (rs_var (d := .int (j : Int)) rfl (rs_mul (Or.inr (small_of (by omega) (by omega))) (rs_c (rs_add ?_)))))))))
        refine ix_row hf hk2 (by omega) fun u' hu' _ _ => rs_c (rs_sub ?_)
        obtain rfl : u = u' := Option.some.inj (hu.symm.trans hu')
        refine ix_pick MKS (by omega) (by show u - 1 < ((2 : Nat) : Int); omega) fun M hM => ?_
        obtain ⟨m, rfl, nm, hM1, hM2, hM3⟩ := mk_of hM
        refine rs_addS (Nat.le_trans (show _ ≤ 100000 by rw [List.length_append]; omega) sz5) ?_
        refine ss_set (rs_op (rs_var (d := .int (nAsk ts : Int)) rfl (rs_c (rs_add ?_))))
        have eA : ((nAsk (ts ++ [(K, m)]) : Nat) : Int) = (nAsk ts : Int) + 1 := by rw [nAsk_app, if_neg hM3]; rfl
        refine ⟨(y ++ K) ++ 46 :: m, ts ++ [(K, m)], ls ++ [l], some (.int (j : Int)), some (wD K), ?_, by simp [h1], by simp [h2], ?_, ?_, .inr ⟨by omega, ?_⟩⟩
        · rw [eA, eN]; rfl
        · rw [List.length_append, List.length_append]; omega
        · intro hm
          rcases List.mem_append.mp hm with hm | hm
          · rcases List.mem_append.mp hm with hm | hm
            · exact hy2 hm
            · exact hK2 hm
          · exact hM2 hm
        · rw [List.append_assoc]
          exact hy3 _ _ (wd_mark kd nm)
      · have eA : ((nAsk (ts ++ [(K, [])]) : Nat) : Int) = (nAsk ts : Int) := by rw [nAsk_app, if_pos rfl]; rfl
        refine ⟨y ++ K, ts ++ [(K, [])], ls ++ [l], some (.int (j : Int)), some (wD K), ?_, by simp [h1], by simp [h2], ?_, ?_, .inr ⟨by omega, hy3 _ _ (wd_kind kd)⟩⟩
        · rw [eA, eN]; rfl
        · rw [List.length_append]; omega
        · intro hm
          rcases List.mem_append.mp hm with hm | hm
          · exact hy2 hm
          · exact hK2 hm
  · rintro r ⟨x, ts, ls, x6, x7, rfl, hs⟩
    have hxl : x.length ≤ 60 := by have := hs.2.2.1; omega
    refine ss_seq (ss_set (rs_op (rs_lst (rs_cons (rs_c (rs_cons (rs_c (rs_cons (rs_c (rs_cons (rs_c (rs_cons (rs_c (rs_cons (rs_c (rs_nil ⟨Nat.le_of_ble_eq_true rfl, ?_⟩))))))))))))))))
    refine rs_op (rs_var (d := iL vs) rfl (rs_c (ix_row hf (k := 10) rfl rfl fun u _ u0 u1 => ix_pick NMS u0 u1 fun nm hnm => ?_)))
    have hnl : nm.length ≤ 6 := (by decide : ∀ w ∈ NMS, w.length ≤ 6) nm hnm
    refine ss_seq (ss_set (rs_op (rs_op (rs_op (rs_op (rs_var (d := wD x) rfl (rs_c (rs_addS (Nat.le_trans (show _ ≤ 100000 by simp; omega) sz5) ?_))))))))
    refine rs_var (d := wD nm) rfl (rs_addS (Nat.le_trans (show _ ≤ 100000 by simp; omega) sz5) (rs_c (rs_addS (Nat.le_trans (show _ ≤ 100000 by simp; omega) sz5) ?_)))
    refine rs_op (rs_lst (rs_cons (rs_c (rs_cons (rs_c (rs_cons (rs_c (rs_nil ⟨Nat.le_of_ble_eq_true rfl, ?_⟩))))))))
    refine rs_op (rs_var (d := iL vs) rfl (rs_c (ix_row hf (k := 11) rfl rfl fun u _ u0 u1 => ix_pick VLS u0 u1 fun v hv => ?_)))
    have hvl : v.length ≤ 1 := (by decide : ∀ w ∈ VLS, w.length ≤ 1) v hv
    refine rs_addS (Nat.le_trans (show _ ≤ 100000 by simp; omega) sz5) ?_
    have tl : (x ++ [58, 32] ++ nm ++ [32] ++ v).length ≤ 70 := by simp; omega
    have st : ∃ j, 0 < j ∧ j ≤ 3 ∧ Stt j x ts ls := ⟨a + 1, by omega, by omega, hs⟩
    generalize hT : x ++ [58, 32] ++ nm ++ [32] ++ v = T at tl
    show Ss (seqF _ _ [some (.int c), some (.int idx), some (iL vs), some (wD T), some (.int (nAsk ts : Int)), some (.int (nNam ts : Int)), x6, x7, some (wD nm)]) _ _ _ _ _
    refine ss_seq (ss_if (rs_T (rs_op (rs_op (rs_var (d := iL vs) rfl (rs_c (ix_row hf (k := 9) rfl rfl fun u _ _ _ => rs_c (rs_eqI (rs_asB ⟨fun z => ?_, fun z => ss_nx ?_⟩)))))))))
    · refine ss_ret (rs_lst (rs_cons (rs_op (rs_var (d := wD T) rfl (rs_c (rs_addS (Nat.le_trans (show _ ≤ 100000 by simp; omega) sz5) ?_))))))
      refine rs_cons (rs_tup (rs_cons (rs_c (rs_cons (rs_var rfl (rs_cons (rs_var rfl (rs_cons (rs_var rfl (rs_nil ⟨Nat.le_of_ble_eq_true rfl, rs_nil ⟨Nat.le_of_ble_eq_true rfl, ?_⟩⟩))))))))))
      exact ⟨_, true, ts, ls, x, nm, v, rfl, ⟨by rw [← hT]; rfl, st, hnm, hv⟩⟩
    · refine ss_ret (rs_lst (rs_cons (rs_var (d := wD T) rfl ?_)))
      refine rs_cons (rs_tup (rs_cons (rs_c (rs_cons (rs_var rfl (rs_cons (rs_var rfl (rs_cons (rs_var rfl (rs_nil ⟨Nat.le_of_ble_eq_true rfl, rs_nil ⟨Nat.le_of_ble_eq_true rfl, ?_⟩⟩))))))))))
      exact ⟨_, false, ts, ls, x, nm, v, rfl, ⟨by rw [← hT]; simp, st, hnm, hv⟩⟩
end
section
def isDg (n : Nat) : Bool := decide (48 ≤ n ∧ n ≤ 57)
def pvL (cs : List Nat) : Option Int := if cs = [] ∨ 12 < cs.length ∨ cs.all isDg = false ∨ (1 < cs.length ∧ cs.head? = some 48) then none else some ((NumText.digitsVal cs : Nat) : Int)
def pvD (l : List Nat) : D := match pvL l with
  | some n => .int n
  | none => .non
theorem intT (l : List Nat) (h : l.all isDg = true) (h1 : l ≠ []) (h2 : l.length ≤ 12) : PySem.intText? (Sg l) = some ((NumText.digitsVal l : Nat) : Int) := by
  refine PySem.intText_digits (x := Sg l) (fun n hn => ?_) h1 (by rw [ST_len]; omega)
  have := List.all_eq_true.mp h n hn
  exact of_decide_eq_true this
theorem mem_ten (n : Nat) : decide (n ∈ [48, 49, 50, 51, 52, 53, 54, 55, 56, 57]) = isDg n := by
  unfold isDg
  rw [Bool.eq_iff_iff, decide_eq_true_iff, decide_eq_true_iff]
  simp
  omega
theorem dv_eq (l : List Nat) (hl : l.length ≤ 100000) : F_digits_value [.str (Sg l)] = .ok (pvD l) := Rs.eq (by
  have pN : (l = [] ∨ 12 < l.length ∨ l.all isDg = false ∨ (1 < l.length ∧ l.head? = some 48)) → pvD l = .non := fun h => by unfold pvD pvL; rw [if_pos h]
  have pS : ¬ (l = [] ∨ 12 < l.length ∨ l.all isDg = false ∨ (1 < l.length ∧ l.head? = some 48)) → pvD l = .int ((NumText.digitsVal l : Nat) : Int) := fun h => by unfold pvD pvL; rw [if_neg h]
  refine rs_run ?_
  unfold Fb_digits_value
  array_get_dec
  refine ⟨fun h => ?_, fun h => ?_⟩
  · array_get_dec
    rw [pN]
    simp at h
    rcases h with h | h
    · exact .inl h
    · exact .inr (.inl (by omega))
  have h : l ≠ [] ∧ l.length ≤ 12 := by
    simp at h
    exact ⟨h.1, by omega⟩
  obtain ⟨h1, h2⟩ := h
  array_get_dec
  refine ss_for (fun i r => (l.take i).all isDg = true ∧ ∃ x, r = [some (.str (Sg l)), x]) ?_
  array_get_dec
  refine ⟨⟨rfl, none, rfl⟩, ?_, ?_⟩
  · rintro i d r hi ⟨ha, x, rfl⟩
    rw [List.getElem?_map] at hi
    cases hx : l[i]? with
    | none => rw [hx] at hi; cases hi
    | some n =>
      rw [hx] at hi
      cases hi
      refine ⟨_, rfl, ?_⟩
      unfold Lp_digits_value_1
      array_get_dec
      rw [mem_ten]
      refine ⟨fun h => ?_, fun h => ?_⟩
      · array_get_dec
        rw [pN]
        refine .inr (.inr (.inl ?_))
        rw [List.all_eq_false]
        exact ⟨n, List.mem_of_getElem? hx, by simpa using h⟩
      · array_get_dec
        refine ⟨?_, _, rfl⟩
        rw [take_snoc hx, List.all_append, ha]
        simpa using h
  · rintro r ⟨ha, x, rfl⟩
    rw [List.length_map, List.take_length] at ha
    refine ss_seq (ss_if (rs_andc ?_))
    array_get_dec
    refine ⟨fun h => ?_, fun h => ?_⟩
    · have h : 1 < l.length := by
        have := of_decide_eq_true h
        omega
      obtain ⟨n, t, rfl⟩ : ∃ n t, l = n :: t := by
        cases l with
        | nil => cases h
        | cons n t => exact ⟨n, t, rfl⟩
      array_get_dec
      refine rs_ixS (n := n) ⟨Nat.le_trans hl sz5, atI_nat (j := 0) rfl⟩ ?_
      array_get_dec
      refine ⟨fun h3 => ?_, fun h3 => ?_⟩
      · array_get_dec
        rw [pN]
        have : n = 48 := by simpa using h3
        exact .inr (.inr (.inr ⟨h, by rw [this]; rfl⟩))
      · array_get_dec
        refine rs_intS (intT _ ha h1 h2) (by rw [ST_len]; omega) ?_
        rw [pS]
        rintro (z | z | z | ⟨_, z⟩)
        · exact h1 z
        · omega
        · rw [ha] at z; cases z
        · have : n = 48 := by simpa using z
          simp [this] at h3
    · have h : ¬ 1 < l.length := by
        have := of_decide_eq_false h
        omega
      refine ⟨fun z => (by cases z), fun _ => ?_⟩
      array_get_dec
      refine rs_intS (intT _ ha h1 h2) (by rw [ST_len]; omega) ?_
      rw [pS]
      rintro (z | z | z | ⟨z, _⟩)
      · exact h1 z
      · omega
      · rw [ha] at z; cases z
      · exact h z)
end
section
def lsD (ls : List Ln) : D := .tup (ls.map fun k => wD (lnW k))
def tsD (ts : List TT) : D := .tup (ts.map ttD)
def patD (l : List Nat) (ts : List TT) (ls : List Ln) : D := .obj "Pattern" ["text", "tests", "links"] [wD l, tsD ts, lsD ls]
theorem pat_ok {l : List Nat} {ts : List TT} {ls : List Ln} (hl : l.length ≤ 9000) (h : readT l = some (ts, ls)) : F_Pattern_init [wD l] = .ok (patD l ts ls) := Rs.eq (by
  have hr := read_pattern_eq hl
  rw [h] at hr
  refine rs_runI ?_
  unfold Fb_Pattern_init
  show Ss (seqF _ _ [some (.obj "Pattern" [] []), some (wD l), none]) _ _ _ _ _
  refine ss_seq (ss_set (rs_call (rs_cons (rs_var (d := wD l) rfl (rs_nil (Rs.of hr ?_))))))
  refine ss_seq (ss_if (rs_T (rs_op (rs_var rfl (rs_c (rs_is (rs_asB ⟨fun z => (by cases z), fun _ => ss_nx ?_⟩)))))))
  refine ss_seq (ss_fst0 (ns := []) (vs := []) (ns' := ["text"]) (vs' := [wD l]) (rs_var rfl rfl) rfl (by decide) rfl ?_)
  refine ss_seq (ss_fst0 (ns := ["text"]) (vs := [wD l]) (ns' := ["text", "tests"]) (vs' := [wD l, tsD ts]) (rs_op (rs_var rfl (rs_c (rs_ixT (d := tsD ts) (atI_nat (j := 0) rfl) rfl)))) rfl (by decide) (by rfl) ?_)
  refine ss_fst0 (ns := ["text", "tests"]) (vs := [wD l, tsD ts]) (ns' := ["text", "tests", "links"]) (vs' := [wD l, tsD ts, lsD ls]) (rs_op (rs_var rfl (rs_c (rs_ixT (d := lsD ls) (atI_nat (j := 1) rfl) rfl)))) rfl (by decide) (by rfl) ?_
  exact ⟨_, rfl, rfl⟩)
theorem rs_prop {n : Str} {F : List D → Res D} {f : Rho → Res D} {r : Rho} {Q : D → Prop} {E : Str → List Str → List D → Prop} (h : Rs (f r) (fun x => isCls n x = true ∧ ∃ d, F [x] = .ok d ∧ Q d) E) : Rs (dProp n F f r) Q E := Rs.bind (h.impE (fun x q => by
  obtain ⟨h1, d, h2, q⟩ := q
  rw [if_pos h1, h2]
  exact q) fun _ _ _ z => z)
theorem pat_asked (l : List Nat) (ts : List TT) (ls : List Ln) (h : ts.length ≤ 4) : F_Pattern_asked [patD l ts ls] = .ok (.int (nAsk ts : Int)) := Rs.eq (by
  refine rs_run ?_
  unfold Fb_Pattern_asked
  refine ss_ret (rs_call (rs_cons ?_))
  refine rs_lcF ttD ttD (fun t => !decide (t.2 = [])) ts (rs_it (rs_un (rs_var (d := patD l ts ls) rfl (rs_fld (d := tsD ts) rfl (rs_itsT rfl))))) (Nat.le_trans (show _ ≤ 100000 by omega) sz5) (fun t _ => ⟨_, rfl, rs_T (rs_op (rs_op (rs_var (d := ttD t) rfl (rs_c (rs_ixT (d := wD t.2) (atI_nat (j := 1) rfl) (rs_c (rs_neS (rs_asB rfl)))))))), fun _ => rs_var rfl rfl⟩) (rs_nil (rs_lenL ?_))
  rw [List.length_map]
  rfl)
theorem pat_named (l : List Nat) (ts : List TT) (ls : List Ln) (h : ts.length ≤ 4) : F_Pattern_named [patD l ts ls] = .ok (.int (nNam ts : Int)) := Rs.eq (by
  refine rs_run ?_
  unfold Fb_Pattern_named
  refine ss_ret (rs_call (rs_cons ?_))
  refine rs_lcF ttD ttD (fun t => !decide (t.1 = [42])) ts (rs_it (rs_un (rs_var (d := patD l ts ls) rfl (rs_fld (d := tsD ts) rfl (rs_itsT rfl))))) (Nat.le_trans (show _ ≤ 100000 by omega) sz5) (fun t _ => ⟨_, rfl, rs_T (rs_op (rs_op (rs_var (d := ttD t) rfl (rs_c (rs_ixT (d := wD t.1) (atI_nat (j := 0) rfl) (rs_c (rs_neS (rs_asB rfl)))))))), fun _ => rs_var rfl rfl⟩) (rs_nil (rs_lenL ?_))
  rw [List.length_map]
  rfl)
def vlI (v : List Nat) : Int := if v = [50] then 2 else 1
theorem vls_dv {v : List Nat} (h : v ∈ VLS) : F_digits_value [wD v] = .ok (.int (vlI v)) ∧ 32 ∉ v ∧ v.length ≤ 1 := by
  simp only [VLS, List.mem_cons, List.not_mem_nil, or_false] at h
  rcases h with rfl | rfl | rfl
  · exact ⟨(dv_eq [49] (by decide)).trans (by rw [show pvD [49] = .int 1 by unfold pvD; rw [show pvL [49] = some 1 by decide +kernel]]; rfl), by decide, by decide⟩
  · exact ⟨(dv_eq [50] (by decide)).trans (by rw [show pvD [50] = .int 2 by unfold pvD; rw [show pvL [50] = some 2 by decide +kernel]]; rfl), by decide, by decide⟩
  · exact ⟨(dv_eq [49] (by decide)).trans (by rw [show pvD [49] = .int 1 by unfold pvD; rw [show pvL [49] = some 1 by decide +kernel]]; rfl), by decide, by decide⟩
theorem nms_rng {nm : List Nat} (h : nm ∈ NMS) : (∃ a b, lookD md_RANGES (Sg nm) = some (.kt [.int a, .int b]) ∧ a ≤ 1 ∧ 2 ≤ b) ∧ 32 ∉ nm ∧ nm.length ≤ 6 := by
  simp only [NMS, List.mem_cons, List.not_mem_nil, or_false] at h
  rcases h with rfl | rfl | rfl | rfl | rfl | rfl
  · exact ⟨⟨0, 2, rfl, by decide, by decide⟩, by decide, by decide⟩
  · exact ⟨⟨1, 3, rfl, by decide, by decide⟩, by decide, by decide⟩
  · exact ⟨⟨0, 3, rfl, by decide, by decide⟩, by decide, by decide⟩
  · exact ⟨⟨0, 3, rfl, by decide, by decide⟩, by decide, by decide⟩
  · exact ⟨⟨0, 9, rfl, by decide, by decide⟩, by decide, by decide⟩
  · exact ⟨⟨0, 9, rfl, by decide, by decide⟩, by decide, by decide⟩
theorem rs_mdNin {rows : List (Str × D)} {z : Str} {Q : D → Prop} {E : Str → List Str → List D → Prop} (q : Q (.bl (!(lookD rows z).isSome))) : Rs (mdIn true rows (.str z)) Q E := q
def FRM : List Nat := [102, 105, 114, 109]
def tailL (nm v : List Nat) (b : Bool) : List Nat := nm ++ 32 :: (v ++ (if b = true then 32 :: FRM else []))
def wordsL (nm v : List Nat) (b : Bool) : List (List Nat) := nm :: v :: (if b = true then [FRM] else [])
theorem spc_tail {nm v : List Nat} {b : Bool} (h1 : 32 ∉ nm) (h2 : 32 ∉ v) : spc 32 (tailL nm v b) = wordsL nm v b := by
  unfold tailL wordsL
  rw [spc_app, spc_none h1]
  cases b with
  | false =>
    show [nm] ++ spc 32 (v ++ []) = _
    rw [List.append_nil, spc_none h2]
    rfl
  | true =>
    show [nm] ++ spc 32 (v ++ 32 :: FRM) = _
    rw [spc_app, spc_none h2, spc_none (by decide)]
    rfl
theorem read_value_eq {nm v : List Nat} (b : Bool) (hn : nm ∈ NMS) (hv : v ∈ VLS) : F_read_value [wD (tailL nm v b)] = .ok (.tup [wD nm, .int (vlI v), .bl b]) := Rs.eq (by
  obtain ⟨⟨x, y, hx, hxy1, hxy2⟩, hn1, hn2⟩ := nms_rng hn
  obtain ⟨hv1, hv2, hv3⟩ := vls_dv hv
  have tl : (tailL nm v b).length ≤ 20 := by
    unfold tailL FRM
    cases b <;> simp <;> omega
  have hv4 : 1 ≤ vlI v ∧ vlI v ≤ 2 := by unfold vlI; split <;> omega
  have hs := spc_tail (b := b) hn1 hv2
  have wl : ((wordsL nm v b).map wD).length = if b = true then 3 else 2 := by cases b <;> rfl
  generalize hT : tailL nm v b = T at tl hs
  generalize hW : wordsL nm v b = W at hs wl
  have g0 : atI (W.map wD) (0 : Int) = some (wD nm) := by rw [← hW]; exact atI_nat (j := 0) rfl
  have g1' : atI (W.map wD) (1 : Int) = some (wD v) := by rw [← hW]; exact atI_nat (j := 1) rfl
  refine rs_run ?_
  unfold Fb_read_value
  show Ss (seqF _ _ [some (wD T), none, none, none, none, none]) _ _ _ _ _
  refine ss_seq (ss_set (rs_str (rs_var (d := wD T) rfl (rs_asS (rs_c (rs_split ⟨by decide, Nat.le_trans (show _ ≤ 100000 by omega) sz5⟩ ?_))))))
  rw [hs]
  show Ss (seqF _ _ [some (wD T), some (.lst (W.map wD)), none, none, none, none]) _ _ _ _ _
  refine ss_seq (ss_cut (fun r => r = [some (wD T), some (.lst (W.map wD)), some (.bl b), none, none, none]) ?_ ?_)
  · refine ss_set (rs_andVc (rs_op (rs_call (rs_cons (rs_var (d := .lst (W.map wD)) rfl (rs_nil (rs_lenL ?_)))))))
    rw [wl]
    cases b with
    | false => exact rs_c (rs_eqI (rs_asB ⟨fun z => absurd z (by decide), fun _ => rfl⟩))
    | true =>
      refine rs_c (rs_eqI (rs_asB ⟨fun _ => ?_, fun z => absurd z (by decide)⟩))
      refine rs_op (rs_op (rs_var (d := .lst (W.map wD)) rfl (rs_c (rs_ixL (d := wD FRM) (by rw [← hW]; exact atI_nat (j := 2) rfl) (rs_c (rs_eqS ?_))))))
      rfl
  · rintro _ rfl
    refine ss_seq (ss_if (rs_or (rs_and (rs_T (rs_op (rs_call (rs_cons (rs_var (d := .lst (W.map wD)) rfl (rs_nil (rs_lenL ?_))))))))))
    rw [wl]
    refine rs_c (rs_neI (rs_asB (rs_not (rs_tru (rs_var (d := .bl b) rfl (rs_truB (rs_T (rs_un (rs_op (rs_var (d := .lst (W.map wD)) rfl (rs_c (rs_ixL g0 (rs_mdNin (rs_asB ⟨fun z => ?_, fun _ => ss_nx ?_⟩))))))))))))))
    · rw [hx] at z
      simp only [Option.isSome_some] at z
      exfalso
      revert z
      cases b <;> decide
    · refine ss_seq (ss_asg (rs_un (rs_op (rs_var (d := .lst (W.map wD)) rfl (rs_c (rs_ixL g0 (rs_mdGet hx ?_)))))))
      refine ⟨[some (wD T), some (.lst (W.map wD)), some (.bl b), some (.int x), some (.int y), none], rfl, ?_⟩
      refine ss_seq (ss_set (rs_call (rs_cons (rs_op (rs_var (d := .lst (W.map wD)) rfl (rs_c (rs_ixL g1' (rs_nil (Rs.of hv1 ?_)))))))))
      refine ss_seq (ss_if (rs_or (rs_T (rs_op (rs_var (d := .int (vlI v)) rfl (rs_c (rs_is (rs_asB (rs_not (rs_T (rs_chain (rs_var (d := .int x) rfl (rs_var (d := .int (vlI v)) rfl (rs_le (rs_asB (rs_var (d := .int y) rfl (rs_le (rs_asB (rs_asB ⟨fun z => ?_, fun _ => ss_nx ?_⟩)))))))))))))))))))
      · exfalso
        rw [decide_eq_true (show x ≤ vlI v by omega), decide_eq_true (show vlI v ≤ y by omega)] at z
        exact absurd (show (false || !(true && true)) = true from z) (by decide)
      · exact ss_ret (rs_tup (rs_cons (rs_op (rs_var (d := .lst (W.map wD)) rfl (rs_c (rs_ixL g0 (rs_cons (rs_var rfl (rs_cons (rs_var rfl (rs_nil ⟨Nat.le_of_ble_eq_true rfl, rfl⟩))))))))))))
theorem rs_part2 {x t : List Nat} {Q : D → Prop} {E : Str → List Str → List D → Prop} (h : (x ++ [58, 32] ++ t).length ≤ sizeLine) (hx : 58 ∉ x) (q : Q (.tup [wD x, wD [58, 32], wD t])) : Rs (partD (wD (x ++ [58, 32] ++ t)) (.str (Sg [58, 32]))) Q E := by
  unfold wD partD
  refine rs_guard ⟨rfl, by rw [ST_len]; exact h⟩ ?_
  have := TL.partition_app (y := Sg [58, 32]) (S := [32]) rfl (a := Sg x) (b := Sg t) hx
  rw [ST_app, ST_app] at this
  rw [this]
  exact q
def rowD (x : List Nat) (ts : List TT) (ls : List Ln) (nm v : List Nat) (b : Bool) : D := .tup [patD x ts ls, wD nm, .int (vlI v), .bl b]
theorem read_row_eq {w x nm v : List Nat} {b : Bool} {ts : List TT} {ls : List Ln} (h : LnOk w b ts ls x nm v) (i : Int) : F_read_row [wD w, .int i] = .ok (rowD x ts ls nm v b) := Rs.eq (by
  obtain ⟨e, ⟨j, j0, j3, s1, s2, s3, s4, s5⟩, hn, hv⟩ := h
  have hr : rdP (spc 32 x) .st [] [] = some (ts, ls, .an) := by
    rcases s5 with ⟨z, _⟩ | ⟨_, z⟩
    · omega
    · exact z
  have hp := pat_ok (l := x) (by omega) (readT_of hr (by omega))
  have e2 : w = x ++ [58, 32] ++ tailL nm v b := by
    rw [e]
    unfold tailL FRM
    cases b <;> simp
  have hvv := read_value_eq b hn hv
  have wl : (x ++ [58, 32] ++ tailL nm v b).length ≤ 100 := by
    have h1 := (nms_rng hn).2.2
    have h2 := (vls_dv hv).2.2
    unfold tailL FRM
    cases b <;> simp <;> omega
  subst e2
  generalize tailL nm v b = T at *
  refine rs_run ?_
  unfold Fb_read_row
  show Ss (seqF _ _ [some (wD (x ++ [58, 32] ++ T)), some (.int i), none, none, none, none, none, none, none, none]) _ _ _ _ _
  refine ss_seq (ss_asg (rs_str (rs_var (d := wD (x ++ [58, 32] ++ T)) rfl (rs_asS (rs_c (rs_part2 (Nat.le_trans (show _ ≤ 100000 by omega) sz5) s4 ?_))))))
  refine ⟨[some (wD (x ++ [58, 32] ++ T)), some (.int i), some (wD x), some (wD [58, 32]), some (wD T), none, none, none, none, none], rfl, ?_⟩
  refine ss_seq (ss_thru (ss_seq (ss_set (rs_call (rs_cons (rs_var (d := wD x) rfl (rs_nil (Rs.of hp ?_))))))))
  refine ss_asg (rs_call (rs_cons (rs_var (d := wD T) rfl (rs_nil (Rs.of hvv ?_)))))
  refine ⟨[some (wD (x ++ [58, 32] ++ T)), some (.int i), some (wD x), some (wD [58, 32]), some (wD T), some (patD x ts ls), some (wD nm), some (.int (vlI v)), some (.bl b), none], rfl, ?_⟩
  exact ss_ret (rs_tup (rs_cons (rs_var rfl (rs_cons (rs_var rfl (rs_cons (rs_var rfl (rs_cons (rs_var rfl (rs_nil ⟨Nat.le_of_ble_eq_true rfl, rfl⟩)))))))))))
end
section
structure RW where
  w : List Nat
  b : Bool
  ts : List TT
  ls : List Ln
  x : List Nat
  nm : List Nat
  v : List Nat
def RW.ok (r : RW) : Prop := LnOk r.w r.b r.ts r.ls r.x r.nm r.v
def RW.d (r : RW) : D := rowD r.x r.ts r.ls r.nm r.v r.b
def RW.pt (r : RW) : Pt := ⟨r.x, r.ts, r.ls⟩
theorem RW.few {r : RW} (h : r.ok) : r.ts.length = r.ls.length ∧ 0 < r.ts.length ∧ r.ts.length ≤ 4 := by
  obtain ⟨_, ⟨j, j0, j3, s1, s2, _⟩, _, _⟩ := h
  omega
/-- four parts -/
abbrev PR := Bool × Int × Int × Int
def pr (q : PR) : D := prD q.1 q.2.1 q.2.2.1 q.2.2.2
def rk (q : PR) : D := rkD q.1 q.2.1 q.2.2.1 q.2.2.2
def RW.q (r : RW) (k : Nat) : PR := (r.b, (nAsk r.ts : Int), (nNam r.ts : Int), (k : Int))
theorem row_eq {ns : List Str} {vs : List D} {R : List RW} {k : Nat} {r : RW} (hl : lookF ns vs ("rows" : Str) = some (.lst (R.map RW.d))) (hk : R[k]? = some r) : F_Sheet_row [.obj "Sheet" ns vs, .int (k : Int)] = .ok r.d := Rs.eq (by
  have hlt := (List.getElem?_eq_some_iff.mp hk).1
  refine rs_run ?_
  unfold Fb_Sheet_row
  show Ss (seqF _ _ [some (.obj "Sheet" ns vs), some (.int (k : Int))]) _ _ _ _ _
  refine ss_seq (ss_if (rs_not (rs_T (rs_chain (rs_c (rs_var (d := .int (k : Int)) rfl (rs_le (rs_asB (rs_call (rs_cons (rs_un (rs_var (d := .obj "Sheet" ns vs) rfl (rs_fld hl (rs_nil (rs_lenL (rs_lt (rs_asB (rs_asB ⟨fun z => ?_, fun _ => ss_nx ?_⟩))))))))))))))))))
  · exfalso
    rw [List.length_map, decide_eq_true (show (0 : Int) ≤ (k : Int) by omega), decide_eq_true (show (k : Int) < (R.length : Int) by omega)] at z
    exact absurd z (by decide)
  · refine ss_ret (rs_op (rs_un (rs_var (d := .obj "Sheet" ns vs) rfl (rs_fld hl (rs_var (d := .int (k : Int)) rfl (rs_ixL (atI_nat (by rw [List.getElem?_map, hk]; rfl)) rfl))))))
  )
theorem srank_eq {ns : List Str} {vs : List D} {R : List RW} {k : Nat} {r : RW} (hl : lookF ns vs ("rows" : Str) = some (.lst (R.map RW.d))) (hn : ("row" : Str) ∉ ns) (hk : R[k]? = some r) (h : r.ok) : F_Sheet_rank [.obj "Sheet" ns vs, .int (k : Int)] = .ok (rk (r.q k)) := Rs.eq (by
  refine rs_run ?_
  unfold Fb_Sheet_rank
  show Ss (seqF _ _ [some (.obj "Sheet" ns vs), some (.int (k : Int)), none, none, none, none]) _ _ _ _ _
  refine ss_seq (ss_asg (rs_meth (rs_var (d := .obj "Sheet" ns vs) rfl (rs_isObj hn (rs_cons (rs_var (d := .int (k : Int)) rfl (rs_nil (Rs.of (row_eq hl hk) ?_))))))))
  refine ⟨[some (.obj "Sheet" ns vs), some (.int (k : Int)), some (patD r.x r.ts r.ls), some (wD r.nm), some (.int (vlI r.v)), some (.bl r.b)], rfl, ?_⟩
  refine ss_ret (rs_call (rs_cons (rs_var (d := .bl r.b) rfl (rs_cons (rs_prop (rs_var (d := patD r.x r.ts r.ls) rfl ⟨isCls_self, _, pat_asked r.x r.ts r.ls (RW.few h).2.2, ?_⟩))))))
  refine rs_cons (rs_prop (rs_var (d := patD r.x r.ts r.ls) rfl ⟨isCls_self, _, pat_named r.x r.ts r.ls (RW.few h).2.2, ?_⟩))
  exact rs_cons (rs_var (d := .int (k : Int)) rfl (rs_nil (Rs.of (rank_init _ _ _ _) rfl))))
theorem ss_insG {N B C : Rho → Prop} {R : D → Prop} {E : Rho → Str → List Str → List D → Prop} {r : Rho} {f fk : Rho → Res D} {i : Nat} (ds : List D) (k : Nat) (h1 : r[i]? = some (some (.lst ds))) (hl : ds.length ≤ 10000) (hk : k ≤ 10000)
    (h : Rs (fk r) (fun kd => kd = .int (k : Int) ∧ Rs (f r) (fun d => N (r.set i (some (.lst (ds.take k ++ [d] ++ ds.drop k))))) (E r)) (E r)) : Ss (insF i fk f r) N R B C E :=
  ss_lift (Rs.of (a := ds) (by unfold ownL; rw [h1]) (ss_lift (rs_cons (h.impE (fun kd q => rs_cons (by
    obtain ⟨rfl, q⟩ := q
    refine q.impE (fun d q => rs_nil ?_) fun _ _ _ z => z
    show Ss (guardS _ _) N R B C E
    rw [guardS_pos ⟨Nat.lt_of_lt_of_le (by omega) sz5, by omega, by omega⟩, Int.toNat_natCast]
    exact q)) fun _ _ _ z => z))))
theorem desc_sp (ks : List PR) (hl : ks.length ≤ 100) : Rs (F_descending [.lst (ks.map rk)]) (fun d => ∃ xs, d = .lst xs) nE := by
  refine rs_run ?_
  unfold Fb_descending
  show Ss (seqF _ _ [some (.lst (ks.map rk)), none, none, none]) _ _ _ _ _
  refine ss_seq (ss_set (rs_lst (rs_nil ⟨Nat.zero_le _, ?_⟩)))
  refine ss_seq (ss_each rk ks (fun i r => ∃ (os : List PR) (x2 x3 : Option D), os.length = i ∧ r = [some (.lst (ks.map rk)), some (.lst (os.map rk)), x2, x3]) (rs_var rfl rfl) ⟨[], none, none, rfl, rfl⟩ ?_ ?_)
  · rintro i q r hq ⟨os, x2, x3, ho, rfl⟩
    have hi := (List.getElem?_eq_some_iff.mp hq).1
    show Ss (Lp_descending_2 [some (.lst (ks.map rk)), some (.lst (os.map rk)), some (rk q), x3]) _ _ _ _ _
    unfold Lp_descending_2
    refine ss_seq (ss_set (rs_c ?_))
    refine ss_seq (ss_cut (fun r => ∃ a : Nat, a ≤ os.length ∧ r = [some (.lst (ks.map rk)), some (.lst (os.map rk)), some (rk q), some (.int (a : Int))]) ?_ ?_)
    · refine ss_while 100000 (fun k r => ∃ a : Nat, k + a = os.length ∧ r = [some (.lst (ks.map rk)), some (.lst (os.map rk)), some (rk q), some (.int (a : Int))]) ?_ os.length _ (by omega) ⟨0, by omega, rfl⟩
      rintro k r ⟨a, ha, rfl⟩
      refine rs_andc (rs_T (rs_op (rs_var (d := .int (a : Int)) rfl (rs_call (rs_cons (rs_var (d := .lst (os.map rk)) rfl (rs_nil (rs_lenL (rs_lt (rs_asB ⟨fun z => ?_, fun z => ⟨fun w => (by cases w), fun _ => ⟨a, by omega, rfl⟩⟩⟩))))))))))
      have z : a < os.length := by
        have := of_decide_eq_true z
        rw [List.length_map] at this
        omega
      have hg : os[a]? = some os[a] := List.getElem?_eq_getElem z
      generalize os[a] = p at hg
      have e1 : dOp ixD (dVar 1) (dVar 3) [some (.lst (ks.map rk)), some (.lst (os.map rk)), some (rk q), some (.int (a : Int))] = .ok (rkD p.1 p.2.1 p.2.2.1 p.2.2.2) := Rs.eq (rs_op (rs_var (d := .lst (os.map rk)) rfl (rs_var (d := .int (a : Int)) rfl (rs_ixL (d := rk p) (atI_nat (by rw [List.getElem?_map, hg]; rfl)) rfl))))
      refine rs_T (rs_bin2 e1 rfl (rank_gt _ _ _ _ _ _ _ _) (rs_asB ⟨fun _ => ?_, fun _ => ⟨a, by omega, rfl⟩⟩))
      unfold Lp_descending_1
      exact ss_set (rs_op (rs_var (d := .int (a : Int)) rfl (rs_c (rs_add ⟨k - 1, by omega, a + 1, by omega, rfl⟩))))
    · rintro _ ⟨a, ha, rfl⟩
      refine ss_insG (os.map rk) a rfl (by rw [List.length_map]; omega) (by omega) (rs_var rfl ⟨rfl, rs_var rfl ?_⟩)
      refine ⟨os.take a ++ [q] ++ os.drop a, some (rk q), some (.int (a : Int)), by simp; omega, ?_⟩
      simp [List.map_take, List.map_drop]
  · rintro r ⟨os, x2, x3, ho, rfl⟩
    refine ss_ret (rs_lc rk (fun q : PR => .int q.2.2.2) os (rs_it (rs_var (d := .lst (os.map rk)) rfl (rs_itsL rfl))) (Nat.le_trans (show _ ≤ 100000 by omega) sz5) (fun q _ => ⟨_, rfl, rfl, rs_un (rs_var (d := rk q) rfl (rs_fld (d := .int q.2.2.2) rfl rfl))⟩) ⟨_, rfl⟩)
def shF (R : List RW) : List D := [.lst (R.map RW.d), .lst (R.map fun r => wD r.w), ptsD ((R.map RW.pt).flatMap (·.ts)) ((R.map RW.pt).flatMap (·.ls)) (endsOf 0 (R.map RW.pt))]
def shD (R : List RW) (o : D) : D := .obj "Sheet" ["rows", "lines", "points", "order"] (shF R ++ [o])
theorem numd_zip (f : RW → D) : ∀ (R : List RW) (n : Nat), numd n (R.map f) = (R.zipIdx n).map fun p => .tup [.int (p.2 : Int), f p.1]
  | [], n => rfl
  | r :: R, n => by rw [List.map_cons, numd, numd_zip f R (n + 1), List.zipIdx_cons]; rfl
theorem zip_fst (f : RW → D) : ∀ (R : List RW) (n : Nat), ((R.zipIdx n).map fun p => f p.1) = R.map f
  | [], n => rfl
  | r :: R, n => by rw [List.zipIdx_cons, List.map_cons, List.map_cons, zip_fst f R (n + 1)]
theorem zip_mem {R : List RW} {p : RW × Nat} (h : p ∈ R.zipIdx 0) : p.1 ∈ R := by
  have : ∀ (R : List RW) (n : Nat), p ∈ R.zipIdx n → p.1 ∈ R := by
    intro R
    induction R with
    | nil => intro n h; simp at h
    | cons r R ih =>
      intro n h
      rw [List.zipIdx_cons] at h
      rcases List.mem_cons.mp h with rfl | h
      · exact List.mem_cons_self ..
      · exact List.mem_cons_of_mem _ (ih _ h)
  exact this R 0 h
theorem sheet_sp (R : List RW) (hR : ∀ r ∈ R, r.ok) (hl : R.length ≤ 4) : Rs (F_Sheet_init [.lst (R.map fun r => wD r.w)]) (fun d => ∃ o, d = shD R o) nE := by
  refine rs_runI ?_
  unfold Fb_Sheet_init
  show Ss (seqF _ _ [some (.obj "Sheet" [] []), some (.lst (R.map fun r => wD r.w)), none, none, none]) _ _ _ _ _
  refine ss_seq (ss_if (rs_T (rs_op (rs_call (rs_cons (rs_var (d := .lst (R.map fun r => wD r.w)) rfl (rs_nil (rs_lenL (rs_c (rs_gt (rs_asB ⟨fun z => ?_, fun _ => ss_nx ?_⟩)))))))))))
  · have := of_decide_eq_true z
    rw [List.length_map] at this
    omega
  refine ss_seq (ss_fst0 (ns := []) (vs := []) (ns' := ["rows"]) (vs' := [.lst (R.map RW.d)]) (d := .lst (R.map RW.d)) ?_ rfl (by decide) rfl ?_)
  · refine rs_lc (fun p : RW × Nat => .tup [.int (p.2 : Int), wD p.1.w]) (fun p => RW.d p.1) (R.zipIdx 0) (rs_it (rs_var (d := .lst (R.map fun r => wD r.w)) rfl ?_)) (Nat.le_trans (show _ ≤ 100000 by rw [List.length_zipIdx]; omega) sz5) (fun p hp => ⟨[some (.obj "Sheet" [] []), some (.lst (R.map fun r => wD r.w)), some (.int (p.2 : Int)), some (wD p.1.w), none], rfl, rfl, ?_⟩) ?_
    · show Rs (Res.ok (numd 0 (R.map fun r => wD r.w))) _ _
      exact rs_ok (numd_zip _ _ _)
    · exact rs_call (rs_cons (rs_var (d := wD p.1.w) rfl (rs_cons (rs_op (rs_var (d := .int (p.2 : Int)) rfl (rs_c (rs_add (rs_nil (Rs.of (read_row_eq (hR _ (zip_mem hp)) _) rfl)))))))))
    · show D.lst _ = D.lst _
      rw [zip_fst RW.d R 0]
  refine ss_seq (ss_fst0 (ns := ["rows"]) (vs := [.lst (R.map RW.d)]) (ns' := ["rows", "lines"]) (vs' := [.lst (R.map RW.d), .lst (R.map fun r => wD r.w)]) (d := .lst (R.map fun r => wD r.w)) (rs_call (rs_cons (rs_var (d := .lst (R.map fun r => wD r.w)) rfl (rs_nil (rs_listL rfl))))) rfl (by decide) (by rfl) ?_)
  have hp : ∀ p ∈ R.map RW.pt, PtOk p := fun p hp => by
    obtain ⟨r, hr, rfl⟩ := List.mem_map.mp hp
    exact RW.few (hR r hr)
  have hpe := points_eq hp (by rw [List.length_map]; omega)
  rw [List.map_map] at hpe
  refine ss_seq (ss_fst0 (ns := ["rows", "lines"]) (vs := [.lst (R.map RW.d), .lst (R.map fun r => wD r.w)]) (ns' := ["rows", "lines", "points"]) (vs' := shF R) (rs_call (rs_cons (rs_lc RW.d (ptD ∘ RW.pt) R (rs_it (rs_un (rs_var (d := .obj "Sheet" ["rows", "lines"] [.lst (R.map RW.d), .lst (R.map fun r => wD r.w)]) rfl (rs_fld (d := .lst (R.map RW.d)) rfl (rs_itsL rfl))))) (Nat.le_trans (show _ ≤ 100000 by omega) sz5) (fun r _ => ⟨_, rfl, rfl, rs_op (rs_var (d := r.d) rfl (rs_c (rs_ixT (d := patD r.x r.ts r.ls) (atI_nat (j := 0) rfl) rfl)))⟩) (rs_nil (Rs.of hpe rfl))))) rfl (by decide) (by rfl) ?_)
  obtain ⟨r0, hr0⟩ : ∃ r0 : Nat → PR, ∀ k r, R[k]? = some r → r0 k = r.q k := ⟨fun k => ((R[k]?).map fun r => r.q k).getD (true, 0, 0, 0), fun k r h => by dsimp only; rw [h]; rfl⟩
  refine ss_fst (ns := ["rows", "lines", "points"]) (vs := shF R) (rs_call (rs_cons (rs_lc (fun k : Nat => D.int (k : Int)) (fun k => rk (r0 k)) (List.range R.length) (rs_rngC (rs_call (rs_cons (rs_un (rs_var (d := .obj "Sheet" ["rows", "lines", "points"] (shF R)) rfl (rs_fld (d := .lst (R.map RW.d)) rfl (rs_nil (rs_lenL (by rw [List.length_map])))))))) (by omega)) (Nat.le_trans (show _ ≤ 100000 by rw [List.length_range]; omega) sz5) (fun k hk => ⟨_, rfl, rfl, ?_⟩) (rs_nil ?_))))
  · have hk := List.mem_range.mp hk
    have hg : R[k]? = some R[k] := List.getElem?_eq_getElem hk
    rw [hr0 k _ hg]
    exact rs_meth (rs_var (d := .obj "Sheet" ["rows", "lines", "points"] (shF R)) rfl (rs_isObj (by decide) (rs_cons (rs_var (d := .int (k : Int)) rfl (rs_nil (Rs.of (srank_eq (R := R) rfl (by decide) hg (hR _ (List.getElem_mem hk))) rfl))))))
  · have := desc_sp ((List.range R.length).map r0) (by rw [List.length_map, List.length_range]; omega)
    rw [List.map_map] at this
    refine this.imp fun d hd => ⟨rfl, by decide, ?_⟩
    exact ⟨_, rfl, d, rfl⟩
end
section
def lnG (y : RW × Nat) : D := .lst [wD y.1.w, pr (y.1.q y.2)]
theorem parts_q (c : Int) (d : D) (hd : d = .tup [] ∨ ∃ q, d = pr q) : Rs (F_l_parts [.int c, d]) (fun e => ∃ q, e = pr q) nE :=
  (parts_sp c d (hd.imp id fun ⟨q, e⟩ => ⟨_, _, _, _, e⟩)).imp fun e ⟨b, m, k, i, h⟩ => ⟨(b, m, k, i), h⟩
theorem ixP {q : PR} {Q : D → Prop} {E : Str → List Str → List D → Prop} (j : Nat) (d : D) (h : [D.bl q.1, .int q.2.1, .int q.2.2.1, .int q.2.2.2][j]? = some d) (r : Q d) : Rs (ixD (pr q) (.int (j : Int))) Q E := rs_ixT (atI_nat h) r
theorem law_true (ns : List Int) (hl : ns.length ≤ 63) : F_law [.fz (ns.map D.int)] = .ok (.bl true) := Rs.eq (by
  have cell : ∀ (k : Nat) {Q : D → Prop} {E : Str → List Str → List D → Prop}, k ≤ 1000 → (∀ z, Q (.int z)) → Rs (F_l_cell [.fz (ns.map D.int), .int (k : Int)]) Q E := fun k {Q E} hk q => (cell_sp ns k hk).impE (fun d ⟨z, e⟩ => by rw [e]; exact q z) fun _ _ _ z => z.elim
  refine rs_run ?_
  unfold Fb_law
  generalize ns.map D.int = NS at cell
  show Ss (seqF _ _ [some (.fz NS), none, none, none, none, none, none, none, none, none]) _ _ _ _ _
  refine ss_seq (ss_set (rs_lst (rs_nil ⟨Nat.zero_le _, ?_⟩)))
  refine ss_seq (ss_set (rs_tup (rs_nil ⟨Nat.zero_le _, ?_⟩)))
  refine ss_seq (ss_rng 3 (fun j r => ∃ (qs : List PR) (bf : D) (x3 : Option D), qs.length = j ∧ (bf = .tup [] ∨ ∃ q, bf = pr q) ∧ r = [some (.fz NS), some (.lst (qs.map pr)), some bf, x3, none, none, none, none, none, none]) (rs_c rfl) (by omega) ⟨[], _, none, rfl, .inl rfl, rfl⟩ ?_ ?_)
  · rintro j r hj ⟨qs, bf, x3, hq, hbf, rfl⟩
    show Ss (Lp_law_1 [some (.fz NS), some (.lst (qs.map pr)), some bf, some (.int (j : Int)), none, none, none, none, none, none]) _ _ _ _ _
    unfold Lp_law_1
    refine ss_seq (ss_set (rs_call (rs_cons (rs_call (rs_cons (rs_var rfl (rs_cons (rs_var (d := .int (j : Int)) rfl (rs_nil (cell j (by omega) fun c0 => rs_cons (rs_var (d := bf) rfl (rs_nil ?_))))))))))))
    refine (parts_q c0 bf hbf).impE ?_ fun _ _ _ z => z.elim
    rintro _ ⟨q, rfl⟩
    refine ss_app (ds := qs.map pr) rfl (rs_var (d := pr q) rfl ⟨Nat.lt_of_lt_of_le (show _ < 100000 by rw [List.length_map]; omega) sz5, ?_⟩)
    refine ⟨qs ++ [q], pr q, some (.int (j : Int)), by rw [List.length_append, hq]; rfl, .inr ⟨q, rfl⟩, ?_⟩
    rw [List.map_append]
    rfl
  rintro r ⟨qs, bf, x3, hq, hbf, rfl⟩
  refine ss_seq (ss_set (rs_lc pr rk qs (rs_it (rs_var (d := .lst (qs.map pr)) rfl (rs_itsL rfl))) (Nat.le_trans (show _ ≤ 100000 by omega) sz5) (fun q _ => ⟨_, rfl, rfl, ?_⟩) ?_))
  · refine rs_call (rs_cons (rs_op (rs_var (d := pr q) rfl (rs_c (ixP 0 (.bl q.1) rfl ?_)))))
    refine rs_cons (rs_op (rs_var (d := pr q) rfl (rs_c (ixP 1 (.int q.2.1) rfl ?_))))
    refine rs_cons (rs_op (rs_var (d := pr q) rfl (rs_c (ixP 2 (.int q.2.2.1) rfl ?_))))
    refine rs_cons (rs_op (rs_var (d := pr q) rfl (rs_c (ixP 3 (.int q.2.2.2) rfl ?_))))
    exact rs_nil (Rs.of (rank_init _ _ _ _) rfl)
  refine ss_seq (ss_set (rs_op (rs_op (rs_call (rs_cons (rs_call (rs_cons (rs_var (d := .fz NS) rfl (rs_cons (rs_c (rs_nil (cell 3 (by omega) fun c3 => rs_nil (rs_int (rs_c (rs_mod (by omega) (rs_c (rs_add ?_)))))))))))))))))
  obtain ⟨n, hn, hn2⟩ : ∃ n : Nat, c3 % 3 + 2 = (n : Int) ∧ n ≤ 4 := ⟨(c3 % 3 + 2).toNat, by omega, by omega⟩
  rw [hn]
  show Ss (seqF _ _ [some (.fz NS), some (.lst (qs.map pr)), some bf, x3, some (.lst (qs.map rk)), none, some (.int (n : Int)), none, none, none]) _ _ _ _ _
  refine ss_seq (ss_set (rs_lcS (fun k : Nat => D.int (k : Int)) lnG (fun _ k (y : RW × Nat) => RW.ok y.1 ∧ y.2 = k) (List.range n) (rs_rngC (rs_var rfl rfl) (by omega)) (Nat.le_trans (show _ ≤ 100000 by rw [List.length_range]; omega) sz5) (fun i k hk => ⟨_, rfl, rfl, ?_⟩) fun ys hys hy => ?_))
  · have hk : k ≤ 10 := by have := List.mem_range.mp (List.mem_of_getElem? hk); omega
    refine rs_call (rs_cons (rs_call (rs_cons (rs_var (d := .fz NS) rfl (rs_cons (rs_op (rs_c (rs_var (d := .int (k : Int)) rfl (rs_add ?_)))))))))
    rw [show (4 : Int) + (k : Int) = ((4 + k : Nat) : Int) by omega]
    refine rs_nil (cell (4 + k) (by omega) fun c4 => rs_cons (rs_var (d := .int (k : Int)) rfl (rs_nil ?_)))
    refine (line_sp c4 (k : Int)).imp ?_
    rintro _ ⟨w, b, ts, ls, x, nm, v, rfl, ok⟩
    exact ⟨(⟨w, b, ts, ls, x, nm, v⟩, k), rfl, ok, rfl⟩
  rw [List.length_range] at hys
  have hy2 : ∀ (k : Nat) (y : RW × Nat), ys[k]? = some y → y.1.ok ∧ y.2 = k := fun k y h => by
    have hk := (List.getElem?_eq_some_iff.mp h).1
    exact hy k k y (by rw [List.getElem?_range (by omega)]) h
  have hR : ∀ r ∈ ys.map (·.1), r.ok := fun r hr => by
    obtain ⟨y, hy, rfl⟩ := List.mem_map.mp hr
    obtain ⟨k, hk⟩ := List.getElem?_of_mem hy
    exact (hy2 k y hk).1
  have hsh := sheet_sp (ys.map (·.1)) hR (by rw [List.length_map]; omega)
  generalize hRR : ys.map (·.1) = R at hR hsh
  have hRl : R.length = n := by rw [← hRR, List.length_map, hys]
  show Ss (seqF _ _ [some (.fz NS), some (.lst (qs.map pr)), some bf, x3, some (.lst (qs.map rk)), none, some (.int (n : Int)), some (.lst (ys.map lnG)), none, none]) _ _ _ _ _
  refine ss_seq (ss_set (rs_call (rs_cons (rs_lc lnG (fun y => wD y.1.w) ys (rs_it (rs_var (d := .lst (ys.map lnG)) rfl (rs_itsL rfl))) (Nat.le_trans (show _ ≤ 100000 by omega) sz5) (fun y _ => ⟨_, rfl, rfl, rs_op (rs_var (d := lnG y) rfl (rs_c (rs_ixL (d := wD y.1.w) (atI_nat (j := 0) rfl) rfl)))⟩) (rs_nil ?_)))))
  rw [show ys.map (fun y => wD y.1.w) = R.map fun r => wD r.w by rw [← hRR, List.map_map]; rfl]
  refine hsh.impE ?_ fun _ _ _ z => z.elim
  rintro _ ⟨o, rfl⟩
  refine ss_seq (ss_rng n (fun j r => ∃ (ps : List PR) (x3 : Option D), ps.length = 3 + j ∧ r = [some (.fz NS), some (.lst (ps.map pr)), some bf, x3, some (.lst (ps.map rk)), none, some (.int (n : Int)), some (.lst (ys.map lnG)), some (shD R o), none]) (rs_var rfl rfl) (by omega) ⟨qs, x3, by omega, rfl⟩ ?_ ?_)
  · rintro k r hk ⟨ps, x3, hps, rfl⟩
    have hg : ys[k]? = some ys[k] := List.getElem?_eq_getElem (by omega)
    generalize ys[k]'(by omega) = y at hg
    obtain ⟨h1, h2⟩ := hy2 k y hg
    have hgR : R[k]? = some y.1 := by rw [← hRR, List.getElem?_map, hg]; rfl
    show Ss (Lp_law_2 [some (.fz NS), some (.lst (ps.map pr)), some bf, some (.int (k : Int)), some (.lst (ps.map rk)), none, some (.int (n : Int)), some (.lst (ys.map lnG)), some (shD R o), none]) _ _ _ _ _
    unfold Lp_law_2
    refine ss_seq (ss_app (ds := ps.map pr) rfl (rs_op (rs_op (rs_var (d := .lst (ys.map lnG)) rfl (rs_var (d := .int (k : Int)) rfl (rs_ixL (d := lnG y) (atI_nat (by rw [List.getElem?_map, hg]; rfl)) (rs_c (rs_ixL (d := pr (y.1.q y.2)) (atI_nat (j := 1) rfl) ⟨Nat.lt_of_lt_of_le (show _ < 100000 by rw [List.length_map]; omega) sz5, ?_⟩))))))))
    rw [h2]
    refine ss_app (ds := ps.map rk) rfl (rs_meth (rs_var (d := shD R o) rfl (rs_isObj (by decide) (rs_cons (rs_var (d := .int (k : Int)) rfl (rs_nil (Rs.of (srank_eq (R := R) rfl (by decide) hgR h1) ⟨Nat.lt_of_lt_of_le (show _ < 100000 by rw [List.length_map]; omega) sz5, ?_⟩)))))))
    refine ⟨ps ++ [y.1.q k], some (.int (k : Int)), by rw [List.length_append, hps]; rfl, ?_⟩
    rw [List.map_append, List.map_append]
    rfl
  rintro r ⟨ps, x3', hps, rfl⟩
  have at1 : ∀ {j : Nat} {q : PR} {Q : D → Prop} {E : Str → List Str → List D → Prop}, ps[j]? = some q → Q (pr q) → Rs (ixD (.lst (ps.map pr)) (.int (j : Int))) Q E := fun h q => rs_ixL (atI_nat (by rw [List.getElem?_map, h]; rfl)) q
  have at2 : ∀ {j : Nat} {q : PR} {Q : D → Prop} {E : Str → List Str → List D → Prop}, ps[j]? = some q → Q (rk q) → Rs (ixD (.lst (ps.map rk)) (.int (j : Int))) Q E := fun h q => rs_ixL (atI_nat (by rw [List.getElem?_map, h]; rfl)) q
  generalize hz : shD R o = Z
  refine ss_seq (ss_rng ps.length (fun j r => ∃ (x5 x9 : Option D), r = [some (.fz NS), some (.lst (ps.map pr)), some bf, x3', some (.lst (ps.map rk)), x5, some (.int (n : Int)), some (.lst (ys.map lnG)), some Z, x9]) (rs_call (rs_cons (rs_var (d := .lst (ps.map pr)) rfl (rs_nil (rs_lenL (by rw [List.length_map])))))) (by omega) ⟨none, none, rfl⟩ ?_ ?_)
  · rintro j r hj ⟨x5, x9, rfl⟩
    have hg : ps[j]? = some ps[j] := List.getElem?_eq_getElem hj
    generalize ps[j] = q at hg
    show Ss (Lp_law_4 [some (.fz NS), some (.lst (ps.map pr)), some bf, x3', some (.lst (ps.map rk)), some (.int (j : Int)), some (.int (n : Int)), some (.lst (ys.map lnG)), some Z, x9]) _ _ _ _ _
    unfold Lp_law_4
    refine ss_seq (ss_if (rs_not (rs_T (rs_call (rs_cons (rs_op (rs_var (d := .lst (ps.map rk)) rfl (rs_var (d := .int (j : Int)) rfl (at2 hg (rs_cons (rs_op (rs_var (d := .lst (ps.map pr)) rfl (rs_var (d := .int (j : Int)) rfl (at1 hg (rs_nil (Rs.of (fields_eq _ _ _ _) (rs_asB ⟨fun z => (by cases z), fun _ => ss_nx ?_⟩)))))))))))))))))
    refine ss_rng ps.length (fun k r => ∃ (x9 : Option D), r = [some (.fz NS), some (.lst (ps.map pr)), some bf, x3', some (.lst (ps.map rk)), some (.int (j : Int)), some (.int (n : Int)), some (.lst (ys.map lnG)), some Z, x9]) (rs_call (rs_cons (rs_var (d := .lst (ps.map pr)) rfl (rs_nil (rs_lenL (by rw [List.length_map])))))) (by omega) ⟨x9, rfl⟩ ?_ ?_
    · rintro k r hk ⟨x9, rfl⟩
      have hg' : ps[k]? = some ps[k] := List.getElem?_eq_getElem hk
      generalize ps[k] = p at hg'
      show Ss (Lp_law_3 [some (.fz NS), some (.lst (ps.map pr)), some bf, x3', some (.lst (ps.map rk)), some (.int (j : Int)), some (.int (n : Int)), some (.lst (ys.map lnG)), some Z, some (.int (k : Int))]) _ _ _ _ _
      unfold Lp_law_3
      refine ss_if (rs_not (rs_T (rs_call (rs_cons (rs_op (rs_var (d := .lst (ps.map rk)) rfl (rs_var (d := .int (j : Int)) rfl (at2 hg ?_))))))))
      refine rs_cons (rs_op (rs_var (d := .lst (ps.map rk)) rfl (rs_var (d := .int (k : Int)) rfl (at2 hg' ?_))))
      refine rs_cons (rs_call (rs_cons (rs_op (rs_var (d := .lst (ps.map pr)) rfl (rs_var (d := .int (j : Int)) rfl (at1 hg ?_))))))
      refine rs_cons (rs_op (rs_var (d := .lst (ps.map pr)) rfl (rs_var (d := .int (k : Int)) rfl (at1 hg' ?_))))
      exact rs_nil (Rs.of (order_eq _ _ _ _ _ _ _ _) (rs_nil (Rs.of (compared_eq _ _ _ _ _ _ _ _) (rs_asB ⟨fun z => (by cases z), fun _ => ss_nx ⟨_, rfl⟩⟩))))
    · rintro r ⟨x9, rfl⟩
      exact ⟨_, _, rfl⟩
  · rintro r ⟨x5, x9, rfl⟩
    exact ss_ret (rs_c rfl))
end
end Lk
end S_MM_pa
section S_P_walk
set_option Elab.async false
set_option linter.all false
set_option maxRecDepth 100000
set_option maxHeartbeats 4000000
namespace Lk
open PySem L2 Dx
def topS (i : Nat) : Stmt := PySem.Challenge.pw_laidforall_k11_ranks.main.body.getD i (.Pass ⟨0, 0, 0, 0⟩)
abbrev s_is_name : Stmt := topS 12
theorem sc_is_name : FnScope ["text", "char"] ["text"] (defScope s_is_name) := ⟨rfl, rfl, rfl, by decide +kernel, rfl, by decide +kernel, by decide +kernel⟩
abbrev s_digits_value : Stmt := topS 13
theorem sc_digits_value : FnScope ["text", "char"] ["text"] (defScope s_digits_value) := ⟨rfl, rfl, rfl, by decide +kernel, rfl, by decide +kernel, by decide +kernel⟩
abbrev s_read_test : Stmt := topS 19
theorem sc_read_test : FnScope ["word", "kind", "dot", "mark"] ["word"] (defScope s_read_test) := ⟨rfl, rfl, rfl, by decide +kernel, rfl, by decide +kernel, by decide +kernel⟩
abbrev s_read_pattern : Stmt := topS 20
theorem sc_read_pattern : FnScope ["text", "tests", "links", "link", "word", "test"] ["text"] (defScope s_read_pattern) := ⟨rfl, rfl, rfl, by decide +kernel, rfl, by decide +kernel, by decide +kernel⟩
abbrev s_Points_init : Stmt := inClass (topS 21) 0
theorem sc_Points_init : FnScope ["self", "patterns", "tests", "ends", "linked", "bit", "pattern", "test", "link"] ["self", "patterns"] (defScope s_Points_init) := ⟨rfl, rfl, rfl, by decide +kernel, rfl, by decide +kernel, by decide +kernel⟩
abbrev s_Pattern_init : Stmt := inClass (topS 22) 0
theorem sc_Pattern_init : FnScope ["self", "text", "read"] ["self", "text"] (defScope s_Pattern_init) := ⟨rfl, rfl, rfl, by decide +kernel, rfl, by decide +kernel, by decide +kernel⟩
abbrev s_Pattern_asked : Stmt := inClass (topS 22) 5
theorem sc_Pattern_asked : FnScope ["self", "test"] ["self"] (defScope s_Pattern_asked) := ⟨rfl, rfl, rfl, by decide +kernel, rfl, by decide +kernel, by decide +kernel⟩
abbrev s_Pattern_named : Stmt := inClass (topS 22) 6
theorem sc_Pattern_named : FnScope ["self", "test"] ["self"] (defScope s_Pattern_named) := ⟨rfl, rfl, rfl, by decide +kernel, rfl, by decide +kernel, by decide +kernel⟩
abbrev s_Rank_init : Stmt := inClass (topS 26) 0
theorem sc_Rank_init : FnScope ["self", "firm", "marks", "kinds", "index"] ["self", "firm", "marks", "kinds", "index"] (defScope s_Rank_init) := ⟨rfl, rfl, rfl, by decide +kernel, rfl, by decide +kernel, by decide +kernel⟩
abbrev s_Rank_parts : Stmt := inClass (topS 26) 1
theorem sc_Rank_parts : FnScope ["self"] ["self"] (defScope s_Rank_parts) := ⟨rfl, rfl, rfl, by decide +kernel, rfl, by decide +kernel, by decide +kernel⟩
abbrev s_Rank_eq : Stmt := inClass (topS 26) 2
theorem sc_Rank_eq : FnScope ["self", "other"] ["self", "other"] (defScope s_Rank_eq) := ⟨rfl, rfl, rfl, by decide +kernel, rfl, by decide +kernel, by decide +kernel⟩
abbrev s_Rank_ne : Stmt := inClass (topS 26) 3
theorem sc_Rank_ne : FnScope ["self", "other"] ["self", "other"] (defScope s_Rank_ne) := ⟨rfl, rfl, rfl, by decide +kernel, rfl, by decide +kernel, by decide +kernel⟩
abbrev s_Rank_lt : Stmt := inClass (topS 26) 4
theorem sc_Rank_lt : FnScope ["self", "other"] ["self", "other"] (defScope s_Rank_lt) := ⟨rfl, rfl, rfl, by decide +kernel, rfl, by decide +kernel, by decide +kernel⟩
abbrev s_Rank_le : Stmt := inClass (topS 26) 5
theorem sc_Rank_le : FnScope ["self", "other"] ["self", "other"] (defScope s_Rank_le) := ⟨rfl, rfl, rfl, by decide +kernel, rfl, by decide +kernel, by decide +kernel⟩
abbrev s_Rank_gt : Stmt := inClass (topS 26) 6
theorem sc_Rank_gt : FnScope ["self", "other"] ["self", "other"] (defScope s_Rank_gt) := ⟨rfl, rfl, rfl, by decide +kernel, rfl, by decide +kernel, by decide +kernel⟩
abbrev s_Rank_ge : Stmt := inClass (topS 26) 7
theorem sc_Rank_ge : FnScope ["self", "other"] ["self", "other"] (defScope s_Rank_ge) := ⟨rfl, rfl, rfl, by decide +kernel, rfl, by decide +kernel, by decide +kernel⟩
abbrev s_read_value : Stmt := topS 27
theorem sc_read_value : FnScope ["text", "words", "firm", "least", "most", "value"] ["text"] (defScope s_read_value) := ⟨rfl, rfl, rfl, by decide +kernel, rfl, by decide +kernel, by decide +kernel⟩
abbrev s_read_row : Stmt := topS 28
theorem sc_read_row : FnScope ["line", "number", "head", "colon", "tail", "pattern", "name", "value", "firm", "e"] ["line", "number"] (defScope s_read_row) := ⟨rfl, rfl, rfl, by decide +kernel, rfl, by decide +kernel, by decide +kernel⟩
abbrev s_descending : Stmt := topS 29
theorem sc_descending : FnScope ["ranks", "order", "one", "at"] ["ranks"] (defScope s_descending) := ⟨rfl, rfl, rfl, by decide +kernel, rfl, by decide +kernel, by decide +kernel⟩
abbrev s_Sheet_row : Stmt := inClass (topS 30) 7
theorem sc_Sheet_row : FnScope ["self", "index"] ["self", "index"] (defScope s_Sheet_row) := ⟨rfl, rfl, rfl, by decide +kernel, rfl, by decide +kernel, by decide +kernel⟩
abbrev s_Sheet_rank : Stmt := inClass (topS 30) 8
theorem sc_Sheet_rank : FnScope ["self", "index", "pattern", "name", "value", "firm"] ["self", "index"] (defScope s_Sheet_rank) := ⟨rfl, rfl, rfl, by decide +kernel, rfl, by decide +kernel, by decide +kernel⟩
abbrev s_Sheet_init : Stmt := inClass (topS 30) 0
theorem sc_Sheet_init : FnScope ["self", "lines", "at", "line", "one"] ["self", "lines"] (defScope s_Sheet_init) := ⟨rfl, rfl, rfl, by decide +kernel, rfl, by decide +kernel, by decide +kernel⟩
abbrev s_l_cell : Stmt := topS 32
theorem sc_l_cell : FnScope ["_law_script", "_law_k"] ["_law_script", "_law_k"] (defScope s_l_cell) := ⟨rfl, rfl, rfl, by decide +kernel, rfl, by decide +kernel, by decide +kernel⟩
abbrev s_l_row : Stmt := topS 33
theorem sc_l_row : FnScope ["_law_cell_here", "_law_limits", "_law_row_here", "_law_rest", "_law_limit", "_law_k", "_law_mixed"] ["_law_cell_here", "_law_limits"] (defScope s_l_row) := ⟨rfl, rfl, rfl, by decide +kernel, rfl, by decide +kernel, by decide +kernel⟩
abbrev s_l_number : Stmt := topS 34
theorem sc_l_number : FnScope ["_law_value"] ["_law_value"] (defScope s_l_number) := ⟨rfl, rfl, rfl, by decide +kernel, rfl, by decide +kernel, by decide +kernel⟩
abbrev s_l_parts : Stmt := topS 35
theorem sc_l_parts : FnScope ["_law_cell_here", "_law_before", "_law_row_here", "_law_drawn", "_law_k"] ["_law_cell_here", "_law_before"] (defScope s_l_parts) := ⟨rfl, rfl, rfl, by decide +kernel, rfl, by decide +kernel, by decide +kernel⟩
abbrev s_l_line : Stmt := topS 36
theorem sc_l_line : FnScope ["_law_cell_here", "_law_index", "_law_row_here", "_law_text", "_law_marks", "_law_kinds", "_law_k", "_law_kind", "_law_name"] ["_law_cell_here", "_law_index"] (defScope s_l_line) := ⟨rfl, rfl, rfl, by decide +kernel, rfl, by decide +kernel, by decide +kernel⟩
abbrev s_l_order : Stmt := topS 37
theorem sc_l_order : FnScope ["_law_one", "_law_two", "_law_k"] ["_law_one", "_law_two"] (defScope s_l_order) := ⟨rfl, rfl, rfl, by decide +kernel, rfl, by decide +kernel, by decide +kernel⟩
abbrev s_l_fields : Stmt := topS 38
theorem sc_l_fields : FnScope ["_law_rank", "_law_parts_here", "_law_fields_here", "_law_k"] ["_law_rank", "_law_parts_here"] (defScope s_l_fields) := ⟨rfl, rfl, rfl, by decide +kernel, rfl, by decide +kernel, by decide +kernel⟩
abbrev s_l_compared : Stmt := topS 39
theorem sc_l_compared : FnScope ["_law_one", "_law_two", "_law_order_here", "_law_told", "_law_due", "_law_k"] ["_law_one", "_law_two", "_law_order_here"] (defScope s_l_compared) := ⟨rfl, rfl, rfl, by decide +kernel, rfl, by decide +kernel, by decide +kernel⟩
abbrev s_law : Stmt := topS 40
theorem sc_law : FnScope ["_law_script", "_law_parts_here", "_law_before", "_law_k", "_law_ranks", "_law_one", "_law_many", "_law_drawn", "_law_sheet", "_law_two"] ["_law_script"] (defScope s_law) := ⟨rfl, rfl, rfl, by decide +kernel, rfl, by decide +kernel, by decide +kernel⟩
abbrev s_BadPattern : Stmt := inClass (topS 5) 0
theorem sc_BadPattern : FnScope ["self", "text"] ["self", "text"] (defScope s_BadPattern) := ⟨rfl, rfl, rfl, by decide +kernel, rfl, by decide +kernel, by decide +kernel⟩
abbrev s_BadValue : Stmt := inClass (topS 6) 0
theorem sc_BadValue : FnScope ["self", "text"] ["self", "text"] (defScope s_BadValue) := ⟨rfl, rfl, rfl, by decide +kernel, rfl, by decide +kernel, by decide +kernel⟩
abbrev s_NoSuchNumber : Stmt := inClass (topS 8) 0
theorem sc_NoSuchNumber : FnScope ["self", "number"] ["self", "number"] (defScope s_NoSuchNumber) := ⟨rfl, rfl, rfl, by decide +kernel, rfl, by decide +kernel, by decide +kernel⟩
abbrev s_TooLarge : Stmt := inClass (topS 3) 0
theorem sc_TooLarge : FnScope ["self", "many"] ["self", "many"] (defScope s_TooLarge) := ⟨rfl, rfl, rfl, by decide +kernel, rfl, by decide +kernel, by decide +kernel⟩
structure Txt (w : World) (K : PySem.W.Frag) (mg : Str → Option Value) where
  f_is_name : Addr
  fd_is_name : FuncData
  F_is_name : Fun K "is_name" "is_name" s_is_name f_is_name fd_is_name
  g_is_name : mg "is_name" = some (.ref f_is_name)
  b_is_name : L2.Binds K fd_is_name ["text"] []
  f_digits_value : Addr
  fd_digits_value : FuncData
  F_digits_value : Fun K "digits_value" "digits_value" s_digits_value f_digits_value fd_digits_value
  g_digits_value : mg "digits_value" = some (.ref f_digits_value)
  b_digits_value : L2.Binds K fd_digits_value ["text"] []
  f_read_test : Addr
  fd_read_test : FuncData
  F_read_test : Fun K "read_test" "read_test" s_read_test f_read_test fd_read_test
  g_read_test : mg "read_test" = some (.ref f_read_test)
  b_read_test : L2.Binds K fd_read_test ["word"] []
  f_read_pattern : Addr
  fd_read_pattern : FuncData
  F_read_pattern : Fun K "read_pattern" "read_pattern" s_read_pattern f_read_pattern fd_read_pattern
  g_read_pattern : mg "read_pattern" = some (.ref f_read_pattern)
  b_read_pattern : L2.Binds K fd_read_pattern ["text"] []
  f_Points_init : Addr
  fd_Points_init : FuncData
  F_Points_init : Fun K "__init__" "Points.__init__" s_Points_init f_Points_init fd_Points_init
  b_Points_init : L2.Binds K fd_Points_init ["self", "patterns"] []
  f_Pattern_init : Addr
  fd_Pattern_init : FuncData
  F_Pattern_init : Fun K "__init__" "Pattern.__init__" s_Pattern_init f_Pattern_init fd_Pattern_init
  b_Pattern_init : L2.Binds K fd_Pattern_init ["self", "text"] []
  f_Pattern_asked : Addr
  fd_Pattern_asked : FuncData
  F_Pattern_asked : Fun K "asked" "Pattern.asked" s_Pattern_asked f_Pattern_asked fd_Pattern_asked
  b_Pattern_asked : L2.Binds K fd_Pattern_asked ["self"] []
  f_Pattern_named : Addr
  fd_Pattern_named : FuncData
  F_Pattern_named : Fun K "named" "Pattern.named" s_Pattern_named f_Pattern_named fd_Pattern_named
  b_Pattern_named : L2.Binds K fd_Pattern_named ["self"] []
  f_Rank_init : Addr
  fd_Rank_init : FuncData
  F_Rank_init : Fun K "__init__" "Rank.__init__" s_Rank_init f_Rank_init fd_Rank_init
  b_Rank_init : L2.Binds K fd_Rank_init ["self", "firm", "marks", "kinds", "index"] []
  f_Rank_parts : Addr
  fd_Rank_parts : FuncData
  F_Rank_parts : Fun K "parts" "Rank.parts" s_Rank_parts f_Rank_parts fd_Rank_parts
  b_Rank_parts : L2.Binds K fd_Rank_parts ["self"] []
  f_Rank_eq : Addr
  fd_Rank_eq : FuncData
  F_Rank_eq : Fun K "__eq__" "Rank.__eq__" s_Rank_eq f_Rank_eq fd_Rank_eq
  b_Rank_eq : L2.Binds K fd_Rank_eq ["self", "other"] []
  f_Rank_ne : Addr
  fd_Rank_ne : FuncData
  F_Rank_ne : Fun K "__ne__" "Rank.__ne__" s_Rank_ne f_Rank_ne fd_Rank_ne
  b_Rank_ne : L2.Binds K fd_Rank_ne ["self", "other"] []
  f_Rank_lt : Addr
  fd_Rank_lt : FuncData
  F_Rank_lt : Fun K "__lt__" "Rank.__lt__" s_Rank_lt f_Rank_lt fd_Rank_lt
  b_Rank_lt : L2.Binds K fd_Rank_lt ["self", "other"] []
  f_Rank_le : Addr
  fd_Rank_le : FuncData
  F_Rank_le : Fun K "__le__" "Rank.__le__" s_Rank_le f_Rank_le fd_Rank_le
  b_Rank_le : L2.Binds K fd_Rank_le ["self", "other"] []
  f_Rank_gt : Addr
  fd_Rank_gt : FuncData
  F_Rank_gt : Fun K "__gt__" "Rank.__gt__" s_Rank_gt f_Rank_gt fd_Rank_gt
  b_Rank_gt : L2.Binds K fd_Rank_gt ["self", "other"] []
  f_Rank_ge : Addr
  fd_Rank_ge : FuncData
  F_Rank_ge : Fun K "__ge__" "Rank.__ge__" s_Rank_ge f_Rank_ge fd_Rank_ge
  b_Rank_ge : L2.Binds K fd_Rank_ge ["self", "other"] []
  f_read_value : Addr
  fd_read_value : FuncData
  F_read_value : Fun K "read_value" "read_value" s_read_value f_read_value fd_read_value
  g_read_value : mg "read_value" = some (.ref f_read_value)
  b_read_value : L2.Binds K fd_read_value ["text"] []
  f_read_row : Addr
  fd_read_row : FuncData
  F_read_row : Fun K "read_row" "read_row" s_read_row f_read_row fd_read_row
  g_read_row : mg "read_row" = some (.ref f_read_row)
  b_read_row : L2.Binds K fd_read_row ["line", "number"] []
  f_descending : Addr
  fd_descending : FuncData
  F_descending : Fun K "descending" "descending" s_descending f_descending fd_descending
  g_descending : mg "descending" = some (.ref f_descending)
  b_descending : L2.Binds K fd_descending ["ranks"] []
  f_Sheet_row : Addr
  fd_Sheet_row : FuncData
  F_Sheet_row : Fun K "row" "Sheet.row" s_Sheet_row f_Sheet_row fd_Sheet_row
  b_Sheet_row : L2.Binds K fd_Sheet_row ["self", "index"] []
  f_Sheet_rank : Addr
  fd_Sheet_rank : FuncData
  F_Sheet_rank : Fun K "rank" "Sheet.rank" s_Sheet_rank f_Sheet_rank fd_Sheet_rank
  b_Sheet_rank : L2.Binds K fd_Sheet_rank ["self", "index"] []
  f_Sheet_init : Addr
  fd_Sheet_init : FuncData
  F_Sheet_init : Fun K "__init__" "Sheet.__init__" s_Sheet_init f_Sheet_init fd_Sheet_init
  b_Sheet_init : L2.Binds K fd_Sheet_init ["self", "lines"] []
  f_l_cell : Addr
  fd_l_cell : FuncData
  F_l_cell : Fun K "_law_cell" "_law_cell" s_l_cell f_l_cell fd_l_cell
  g_l_cell : mg "_law_cell" = some (.ref f_l_cell)
  b_l_cell : L2.Binds K fd_l_cell ["_law_script", "_law_k"] []
  f_l_row : Addr
  fd_l_row : FuncData
  F_l_row : Fun K "_law_row" "_law_row" s_l_row f_l_row fd_l_row
  g_l_row : mg "_law_row" = some (.ref f_l_row)
  b_l_row : L2.Binds K fd_l_row ["_law_cell_here", "_law_limits"] []
  f_l_number : Addr
  fd_l_number : FuncData
  F_l_number : Fun K "_law_number" "_law_number" s_l_number f_l_number fd_l_number
  g_l_number : mg "_law_number" = some (.ref f_l_number)
  b_l_number : L2.Binds K fd_l_number ["_law_value"] []
  f_l_parts : Addr
  fd_l_parts : FuncData
  F_l_parts : Fun K "_law_parts" "_law_parts" s_l_parts f_l_parts fd_l_parts
  g_l_parts : mg "_law_parts" = some (.ref f_l_parts)
  b_l_parts : L2.Binds K fd_l_parts ["_law_cell_here", "_law_before"] []
  f_l_line : Addr
  fd_l_line : FuncData
  F_l_line : Fun K "_law_line" "_law_line" s_l_line f_l_line fd_l_line
  g_l_line : mg "_law_line" = some (.ref f_l_line)
  b_l_line : L2.Binds K fd_l_line ["_law_cell_here", "_law_index"] []
  f_l_order : Addr
  fd_l_order : FuncData
  F_l_order : Fun K "_law_order" "_law_order" s_l_order f_l_order fd_l_order
  g_l_order : mg "_law_order" = some (.ref f_l_order)
  b_l_order : L2.Binds K fd_l_order ["_law_one", "_law_two"] []
  f_l_fields : Addr
  fd_l_fields : FuncData
  F_l_fields : Fun K "_law_fields" "_law_fields" s_l_fields f_l_fields fd_l_fields
  g_l_fields : mg "_law_fields" = some (.ref f_l_fields)
  b_l_fields : L2.Binds K fd_l_fields ["_law_rank", "_law_parts_here"] []
  f_l_compared : Addr
  fd_l_compared : FuncData
  F_l_compared : Fun K "_law_compared" "_law_compared" s_l_compared f_l_compared fd_l_compared
  g_l_compared : mg "_law_compared" = some (.ref f_l_compared)
  b_l_compared : L2.Binds K fd_l_compared ["_law_one", "_law_two", "_law_order_here"] []
  f_law : Addr
  fd_law : FuncData
  F_law : Fun K "law" "law" s_law f_law fd_law
  g_law : mg "law" = some (.ref f_law)
  b_law : L2.Binds K fd_law ["_law_script"] []
  n_NotImplemented : mg "NotImplemented" = none
  n_bool : mg "bool" = none
  n_enumerate : mg "enumerate" = none
  n_int : mg "int" = none
  n_isinstance : mg "isinstance" = none
  n_len : mg "len" = none
  n_list : mg "list" = none
  n_range : mg "range" = none
  n_tuple : mg "tuple" = none
  n_zip : mg "zip" = none
  t_DIGITS : Tok
  c_DIGITS : mg "DIGITS" = some (.str "0123456789" t_DIGITS)
  t_LETTERS : Tok
  c_LETTERS : mg "LETTERS" = some (.str "abcdefghijklmnopqrstuvwxyz" t_LETTERS)
  t_MOST_ROWS : Tok
  c_MOST_ROWS : mg "MOST_ROWS" = some (.int 12 t_MOST_ROWS)
  t_MOST_TESTS : Tok
  c_MOST_TESTS : mg "MOST_TESTS" = some (.int 4 t_MOST_TESTS)
  k_LINKS : Addr
  c_LINKS : mg "LINKS" = some (.ref k_LINKS)
  kd_LINKS : ModD K w k_LINKS md_LINKS
  k_RANGES : Addr
  c_RANGES : mg "RANGES" = some (.ref k_RANGES)
  kd_RANGES : ModD K w k_RANGES md_RANGES
  a_BadPattern : Addr
  g_BadPattern : mg "BadPattern" = some (.ref a_BadPattern)
  a_BadValue : Addr
  g_BadValue : mg "BadValue" = some (.ref a_BadValue)
  a_NoSuchNumber : Addr
  g_NoSuchNumber : mg "NoSuchNumber" = some (.ref a_NoSuchNumber)
  a_TooLarge : Addr
  g_TooLarge : mg "TooLarge" = some (.ref a_TooLarge)
  o_BadPattern : OexC K a_BadPattern
  fI_BadPattern : Addr
  fdI_BadPattern : FuncData
  i_BadPattern : PySem.W.findIn K (.ref a_BadPattern) "__init__" = some (some (.ref fI_BadPattern))
  ti_BadPattern : PySem.W.typeIn K (.ref fI_BadPattern) = some (.type "function")
  FI_BadPattern : Fun K "__init__" "BadPattern.__init__" s_BadPattern fI_BadPattern fdI_BadPattern
  b_BadPattern : L2.Binds K fdI_BadPattern ["self", "text"] []
  no_BadPattern_text : PySem.W.findIn K (.ref a_BadPattern) "text" = some none
  xf_BadPattern : XfC K a_BadPattern
  xc_BadPattern : ExcC K a_BadPattern
  o_BadValue : OexC K a_BadValue
  fI_BadValue : Addr
  fdI_BadValue : FuncData
  i_BadValue : PySem.W.findIn K (.ref a_BadValue) "__init__" = some (some (.ref fI_BadValue))
  ti_BadValue : PySem.W.typeIn K (.ref fI_BadValue) = some (.type "function")
  FI_BadValue : Fun K "__init__" "BadValue.__init__" s_BadValue fI_BadValue fdI_BadValue
  b_BadValue : L2.Binds K fdI_BadValue ["self", "text"] []
  no_BadValue_text : PySem.W.findIn K (.ref a_BadValue) "text" = some none
  xf_BadValue : XfC K a_BadValue
  xc_BadValue : ExcC K a_BadValue
  o_NoSuchNumber : OexC K a_NoSuchNumber
  fI_NoSuchNumber : Addr
  fdI_NoSuchNumber : FuncData
  i_NoSuchNumber : PySem.W.findIn K (.ref a_NoSuchNumber) "__init__" = some (some (.ref fI_NoSuchNumber))
  ti_NoSuchNumber : PySem.W.typeIn K (.ref fI_NoSuchNumber) = some (.type "function")
  FI_NoSuchNumber : Fun K "__init__" "NoSuchNumber.__init__" s_NoSuchNumber fI_NoSuchNumber fdI_NoSuchNumber
  b_NoSuchNumber : L2.Binds K fdI_NoSuchNumber ["self", "number"] []
  no_NoSuchNumber_number : PySem.W.findIn K (.ref a_NoSuchNumber) "number" = some none
  xf_NoSuchNumber : XfC K a_NoSuchNumber
  xc_NoSuchNumber : ExcC K a_NoSuchNumber
  o_TooLarge : OexC K a_TooLarge
  fI_TooLarge : Addr
  fdI_TooLarge : FuncData
  i_TooLarge : PySem.W.findIn K (.ref a_TooLarge) "__init__" = some (some (.ref fI_TooLarge))
  ti_TooLarge : PySem.W.typeIn K (.ref fI_TooLarge) = some (.type "function")
  FI_TooLarge : Fun K "__init__" "TooLarge.__init__" s_TooLarge fI_TooLarge fdI_TooLarge
  b_TooLarge : L2.Binds K fdI_TooLarge ["self", "many"] []
  no_TooLarge_many : PySem.W.findIn K (.ref a_TooLarge) "many" = some none
  xf_TooLarge : XfC K a_TooLarge
  xc_TooLarge : ExcC K a_TooLarge
  a_Pattern : Addr
  g_Pattern : mg "Pattern" = some (.ref a_Pattern)
  cl_Pattern : L2.Cls K a_Pattern
  a_Points : Addr
  g_Points : mg "Points" = some (.ref a_Points)
  cl_Points : L2.Cls K a_Points
  a_Rank : Addr
  g_Rank : mg "Rank" = some (.ref a_Rank)
  cl_Rank : L2.Cls K a_Rank
  a_Sheet : Addr
  g_Sheet : mg "Sheet" = some (.ref a_Sheet)
  cl_Sheet : L2.Cls K a_Sheet
  mk_Pattern : L2.Mk K a_Pattern f_Pattern_init
  mk_Points : L2.Mk K a_Points f_Points_init
  mk_Rank : L2.Mk K a_Rank f_Rank_init
  mk_Sheet : L2.Mk K a_Sheet f_Sheet_init
  na_Pattern_links : L2.NoAttr K a_Pattern "links"
  na_Pattern_tests : L2.NoAttr K a_Pattern "tests"
  na_Pattern_text : L2.NoAttr K a_Pattern "text"
  na_Points_ends : L2.NoAttr K a_Points "ends"
  na_Points_linked : L2.NoAttr K a_Points "linked"
  na_Points_tests : L2.NoAttr K a_Points "tests"
  na_Rank_firm : L2.NoAttr K a_Rank "firm"
  na_Rank_index : L2.NoAttr K a_Rank "index"
  na_Rank_kinds : L2.NoAttr K a_Rank "kinds"
  na_Rank_marks : L2.NoAttr K a_Rank "marks"
  na_Sheet_lines : L2.NoAttr K a_Sheet "lines"
  na_Sheet_order : L2.NoAttr K a_Sheet "order"
  na_Sheet_points : L2.NoAttr K a_Sheet "points"
  na_Sheet_rows : L2.NoAttr K a_Sheet "rows"
  m_Rank___eq__ : L2.Meth K a_Rank "__eq__" f_Rank_eq
  m_Rank___ge__ : L2.Meth K a_Rank "__ge__" f_Rank_ge
  m_Rank___gt__ : L2.Meth K a_Rank "__gt__" f_Rank_gt
  m_Rank___le__ : L2.Meth K a_Rank "__le__" f_Rank_le
  m_Rank___lt__ : L2.Meth K a_Rank "__lt__" f_Rank_lt
  m_Rank___ne__ : L2.Meth K a_Rank "__ne__" f_Rank_ne
  m_Rank_parts : L2.Meth K a_Rank "parts" f_Rank_parts
  m_Sheet_rank : L2.Meth K a_Sheet "rank" f_Sheet_rank
  m_Sheet_row : L2.Meth K a_Sheet "row" f_Sheet_row
  pp_Pattern_asked : Addr
  pr_Pattern_asked : L2.PropOf K a_Pattern "asked" pp_Pattern_asked f_Pattern_asked
  pp_Pattern_named : Addr
  pr_Pattern_named : L2.PropOf K a_Pattern "named" pp_Pattern_named f_Pattern_named
  nf_Rank : PySem.W.notFirst K a_Rank (.ref a_Rank) = true
  ic_Rank : IsC K a_Rank
  nt_Rank : ∀ t ∈ tyAll, PySem.W.notFirst K a_Rank (.type t) = true
  mt_Rank : PySem.W.mroIn K a_Rank (.type "tuple") = some false
def Txt.cm {w : World} {K : PySem.W.Frag} {mg : Str → Option Value} (T : Txt w K mg) : CM := fun n => if n = "BadPattern" then some T.a_BadPattern else if n = "BadValue" then some T.a_BadValue else if n = "NoSuchNumber" then some T.a_NoSuchNumber else if n = "TooLarge" then some T.a_TooLarge else if n = "Pattern" then some T.a_Pattern else if n = "Points" then some T.a_Points else if n = "Rank" then some T.a_Rank else if n = "Sheet" then some T.a_Sheet else none
section
variable {P : Program} {w : World} {K : PySem.W.Frag} {mg : Str → Option Value} {base : Heap}
theorem Txt.cm_BadPattern (T : Txt w K mg) : T.cm "BadPattern" = some T.a_BadPattern := by unfold Txt.cm; rw [if_pos rfl]
theorem Txt.cm_BadValue (T : Txt w K mg) : T.cm "BadValue" = some T.a_BadValue := by unfold Txt.cm; rw [if_neg (by decide), if_pos rfl]
theorem Txt.cm_NoSuchNumber (T : Txt w K mg) : T.cm "NoSuchNumber" = some T.a_NoSuchNumber := by unfold Txt.cm; rw [if_neg (by decide), if_neg (by decide), if_pos rfl]
theorem Txt.cm_TooLarge (T : Txt w K mg) : T.cm "TooLarge" = some T.a_TooLarge := by unfold Txt.cm; rw [if_neg (by decide), if_neg (by decide), if_neg (by decide), if_pos rfl]
theorem Txt.cm_Pattern (T : Txt w K mg) : T.cm "Pattern" = some T.a_Pattern := by unfold Txt.cm; rw [if_neg (by decide), if_neg (by decide), if_neg (by decide), if_neg (by decide), if_pos rfl]
theorem Txt.cm_Points (T : Txt w K mg) : T.cm "Points" = some T.a_Points := by unfold Txt.cm; rw [if_neg (by decide), if_neg (by decide), if_neg (by decide), if_neg (by decide), if_neg (by decide), if_pos rfl]
theorem Txt.cm_Rank (T : Txt w K mg) : T.cm "Rank" = some T.a_Rank := by unfold Txt.cm; rw [if_neg (by decide), if_neg (by decide), if_neg (by decide), if_neg (by decide), if_neg (by decide), if_neg (by decide), if_pos rfl]
theorem Txt.cm_Sheet (T : Txt w K mg) : T.cm "Sheet" = some T.a_Sheet := by unfold Txt.cm; rw [if_neg (by decide), if_neg (by decide), if_neg (by decide), if_neg (by decide), if_neg (by decide), if_neg (by decide), if_neg (by decide), if_pos rfl]
theorem ox_BadPattern (T : Txt w K mg) : FnOk P w K mg base (L2.CX P w) 1 T.fI_BadPattern T.fdI_BadPattern ["self", "text"] (spX1 K T.a_BadPattern "text") := xinit1 T.FI_BadPattern sc_BadPattern rfl rfl fun cdv A outer s H E => pss_one (ps_ost (pv 0) (pv 1))
theorem ox_BadValue (T : Txt w K mg) : FnOk P w K mg base (L2.CX P w) 1 T.fI_BadValue T.fdI_BadValue ["self", "text"] (spX1 K T.a_BadValue "text") := xinit1 T.FI_BadValue sc_BadValue rfl rfl fun cdv A outer s H E => pss_one (ps_ost (pv 0) (pv 1))
theorem ox_NoSuchNumber (T : Txt w K mg) : FnOk P w K mg base (L2.CX P w) 1 T.fI_NoSuchNumber T.fdI_NoSuchNumber ["self", "number"] (spX1 K T.a_NoSuchNumber "number") := xinit1 T.FI_NoSuchNumber sc_NoSuchNumber rfl rfl fun cdv A outer s H E => pss_one (ps_ost (pv 0) (pv 1))
theorem ox_TooLarge (T : Txt w K mg) : FnOk P w K mg base (L2.CX P w) 1 T.fI_TooLarge T.fdI_TooLarge ["self", "many"] (spX1 K T.a_TooLarge "many") := xinit1 T.FI_TooLarge sc_TooLarge rfl rfl fun cdv A outer s H E => pss_one (ps_ost (pv 0) (pv 1))
theorem okNi_Rank_eq (T : Txt w K mg) : NiOk P w K mg base T.cm 1 T.f_Rank_eq T.fd_Rank_eq ["self", "other"] [true, true] 2 Tt_Rank_eq := dokNi (k := 0) T.F_Rank_eq sc_Rank_eq rfl (by decide) rfl (fun cdv A outer s H E hr => (dt_not (dt_val (de_isO T.cm_Rank T.ic_Rank T.n_isinstance (by rfl) (by rfl) T.g_Rank (db_var 1 (pv 1) (.inr (.inr (by rfl)))))))) (by rfl) T.n_NotImplemented (by decide +kernel)
theorem okNi_Rank_ne (T : Txt w K mg) : NiOk P w K mg base T.cm 1 T.f_Rank_ne T.fd_Rank_ne ["self", "other"] [true, true] 2 Tt_Rank_ne := dokNi (k := 0) T.F_Rank_ne sc_Rank_ne rfl (by decide) rfl (fun cdv A outer s H E hr => (dt_not (dt_val (de_isO T.cm_Rank T.ic_Rank T.n_isinstance (by rfl) (by rfl) T.g_Rank (db_var 1 (pv 1) (.inr (.inr (by rfl)))))))) (by rfl) T.n_NotImplemented (by decide +kernel)
theorem ok_is_name (T : Txt w K mg) : FnOk P w K mg base (L2.CX P w) 1 T.f_is_name T.fd_is_name ["text"] (spD K T.cm [false] false F_is_name)   := dok (G' := []) (k := 0) T.F_is_name sc_is_name rfl (by decide) fun cdv A outer s H E hr =>
  (ds_cons (ds_if gok0 (dt_not (dt_chain or_le os_ord or_le os_ord (db_of de_int) (db_of (de_bltn call_len cs_len (by rfl) T.n_len (by decide +kernel) (dm_bor (db_var 0 (pv 0) (.inl (by rfl))) dm_nil))) (db_of de_int)))
  (ds_one (ds_ret gok0 rfl de_bl))
  ds_nil)
  (ds_cons (ds_for gok0 (passes_of rfl) rfl (di_str (de_var 0 (pv 0) rfl)) (dg_name 1 sc_is_name.nd rfl (by first | exact Or.inl rfl | exact Or.inr rfl))
  (ds_one (ds_if gok0 (dt_cmp (or_nin (hu65 hr)) os_nin (db_var 1 (pv 1) (.inl (by rfl))) (db_of (de_c (v := .str "abcdefghijklmnopqrstuvwxyz") (pe_glob (by rfl) T.c_LETTERS ⟨_, rfl⟩) fun _ => rp_lit (by decide +kernel))) (by rfl))
  (ds_one (ds_ret gok0 rfl de_bl))
  ds_nil)))
  (ds_one (ds_ret gok0 rfl de_bl))))
theorem ok_digits_value (T : Txt w K mg) : FnOk P w K mg base (L2.CX P w) 1 T.f_digits_value T.fd_digits_value ["text"] (spD K T.cm [false] false F_digits_value)   := dok (G' := []) (k := 0) T.F_digits_value sc_digits_value rfl (by decide) fun cdv A outer s H E hr =>
  (ds_cons (ds_if gok0 (PW.pt (dw_or (dt_cmp (or_eq hr.units) os_eq (db_var 0 (pv 0) (.inl (by rfl))) (db_of (de_strL (by decide +kernel))) (nomark _)) (dw_or1 (dt_cmp or_gt os_ord (db_of (de_bltn call_len cs_len (by rfl) T.n_len (by decide +kernel) (dm_bor (db_var 0 (pv 0) (.inl (by rfl))) dm_nil))) (db_of de_int) (nomark _)))))
  (ds_one (ds_ret gok0 rfl de_non))
  ds_nil)
  (ds_cons (ds_for gok0 (passes_of rfl) rfl (di_str (de_var 0 (pv 0) rfl)) (dg_name 1 sc_digits_value.nd rfl (by first | exact Or.inl rfl | exact Or.inr rfl))
  (ds_one (ds_if gok0 (dt_cmp (or_nin (hu65 hr)) os_nin (db_var 1 (pv 1) (.inl (by rfl))) (db_of (de_c (v := .str "0123456789") (pe_glob (by rfl) T.c_DIGITS ⟨_, rfl⟩) fun _ => rp_lit (by decide +kernel))) (by rfl))
  (ds_one (ds_ret gok0 rfl de_non))
  ds_nil)))
  (ds_cons (ds_if gok0 (PW.pt (dw_and (dt_cmp or_gt os_ord (db_of (de_bltn call_len cs_len (by rfl) T.n_len (by decide +kernel) (dm_bor (db_var 0 (pv 0) (.inl (by rfl))) dm_nil))) (db_of de_int) (nomark _)) (dw_and1 (dt_cmp (or_eq hr.units) os_eq (db_of (de_ix (db_var 0 (pv 0) (.inl (by rfl))) (db_of de_int) (fun _ _ => rfl))) (db_of (de_strL (by decide +kernel))) (nomark _)))))
  (ds_one (ds_ret gok0 rfl de_non))
  ds_nil)
  (ds_one (ds_ret gok0 rfl (de_type cr_int cs_int (by rfl) T.n_int (by decide +kernel) (dm_bor (db_var 0 (pv 0) (.inl (by rfl))) dm_nil)))))))
theorem ok_read_test (T : Txt w K mg) : FnOk P w K mg base (L2.CX P w) 2 T.f_read_test T.fd_read_test ["word"] (spD K T.cm [false] false F_read_test)   := dok (G' := []) (k := 1) T.F_read_test sc_read_test rfl (by decide) fun cdv A outer s H E hr =>
  (ds_cons (ds_asg gok0 (de_m1 PySem.F.slot_str_partition PySem.F.type_str_partition mt_partition ms_part (db_var 0 (pv 0) (.inl (by rfl))) (db_of (de_strL (by decide +kernel)))) (dg_tup rfl (dg_cons (dg_name 1 sc_read_test.nd rfl (by first | exact Or.inl rfl | exact Or.inr rfl)) (dg_cons (dg_name 2 sc_read_test.nd rfl (by first | exact Or.inl rfl | exact Or.inr rfl)) (dg_cons (dg_name 3 sc_read_test.nd rfl (by first | exact Or.inl rfl | exact Or.inr rfl)) dg_nil)))))
  (ds_cons (ds_if gok0 (PW.pt (dw_and (dt_cmp (or_ne hr.units) os_ne (db_var 1 (pv 1) (.inl (by rfl))) (db_of (de_strL (by decide +kernel))) (nomark _)) (dw_and1 (dt_not (dt_val (de_callV (ok_is_name T) (takes_of rfl rfl rfl rfl) (hr.mono (by decide)) (by rfl) T.g_is_name T.F_is_name.kp T.b_is_name (dm_val (de_var 1 (pv 1) rfl) dm_nil)))))))
  (ds_one (ds_ret gok0 rfl de_non))
  ds_nil)
  (ds_cons (ds_if gok0 (PW.pt (dw_and (dt_cmp (or_ne hr.units) os_ne (db_var 2 (pv 2) (.inl (by rfl))) (db_of (de_strL (by decide +kernel))) (nomark _)) (dw_and1 (dt_not (dt_val (de_callV (ok_is_name T) (takes_of rfl rfl rfl rfl) (hr.mono (by decide)) (by rfl) T.g_is_name T.F_is_name.kp T.b_is_name (dm_val (de_var 3 (pv 3) rfl) dm_nil)))))))
  (ds_one (ds_ret gok0 rfl de_non))
  ds_nil)
  (ds_one (ds_ret gok0 rfl (de_tup (da_cons (de_var 1 (pv 1) rfl) (da_cons (de_var 3 (pv 3) rfl) da_nil))))))))
theorem ok_read_pattern (T : Txt w K mg) : FnOk P w K mg base (L2.CX P w) 3 T.f_read_pattern T.fd_read_pattern ["text"] (spD K T.cm [false] false F_read_pattern)   := dok (G' := []) (k := 2) T.F_read_pattern sc_read_pattern rfl (by decide) fun cdv A outer s H E hr =>
  (ds_cons (ds_setO 1 gok0 (show 1 < 6 by decide) sc_read_pattern.nd rfl (by first | exact Or.inl rfl | exact Or.inr rfl) (de_lst da_nil))
  (ds_cons (ds_setO 2 gok0 (show 2 < 6 by decide) sc_read_pattern.nd rfl (by first | exact Or.inl rfl | exact Or.inr rfl) (de_lst da_nil))
  (ds_cons (ds_set 3 gok0 sc_read_pattern.nd rfl (by first | exact Or.inl rfl | exact Or.inr rfl) (de_strL (by decide +kernel)))
  (ds_cons (ds_for gok0 (passes_of rfl) rfl (di_list (de_pub (de_m1 PySem.F.slot_str_split PySem.F.type_str_split mt_split ms_split (db_var 0 (pv 0) (.inl (by rfl))) (db_of (de_strL (by decide +kernel)))))) (dg_name 4 sc_read_pattern.nd rfl (by first | exact Or.inl rfl | exact Or.inr rfl))
  (ds_cons (ds_if gok0 (PW.pt (dw_and (dt_mdIn T.kd_LINKS (db_var 4 (pv 4) (.inl (by rfl))) (pe_glob (v := .ref T.k_LINKS) (by rfl) T.c_LINKS rfl) (by rfl)) (dw_and1 (dt_cmp (or_eq hr.units) os_eq (db_var 3 (pv 3) (.inl (by rfl))) (db_of (de_strL (by decide +kernel))) (nomark _)))))
  (ds_cons (ds_set 3 gok0 sc_read_pattern.nd rfl (by first | exact Or.inl rfl | exact Or.inr rfl) (de_mdGet T.kd_LINKS (pe_glob (v := .ref T.k_LINKS) (by rfl) T.c_LINKS rfl) (db_var 4 (pv 4) (.inl (by rfl))) (fun _ _ => rfl)))
  (ds_one ds_cont))
  ds_nil)
  (ds_cons (ds_set 5 gok0 sc_read_pattern.nd rfl (by first | exact Or.inl rfl | exact Or.inr rfl) (de_callV (ok_read_test T) (takes_of rfl rfl rfl rfl) (hr.mono (by decide)) (by rfl) T.g_read_test T.F_read_test.kp T.b_read_test (dm_val (de_var 4 (pv 4) rfl) dm_nil)))
  (ds_cons (ds_if gok0 (dt_cmp op_isN os_is (db_var 5 (pv 5) (.inl (by rfl))) (db_of de_non) (nomark _))
  (ds_one (ds_ret gok0 rfl de_non))
  ds_nil)
  (ds_cons (ds_app 1 gok0 rfl (pv 1) (de_var 5 (pv 5) rfl))
  (ds_cons (ds_app 2 gok0 rfl (pv 2) (de_var 3 (pv 3) rfl))
  (ds_one (ds_set 3 gok0 sc_read_pattern.nd rfl (by first | exact Or.inl rfl | exact Or.inr rfl) (de_strL (by decide +kernel))))))))))
  (ds_cons (ds_if gok0 (PW.pt (dw_or (dt_cmp (or_ne hr.units) os_ne (db_var 3 (pv 3) (.inl (by rfl))) (db_of (de_strL (by decide +kernel))) (nomark _)) (dw_or1 (dt_cmp or_gt os_ord (db_of (de_bltn call_len cs_len (by rfl) T.n_len (by decide +kernel) (dm_bor (db_var 1 (pv 1) (.inr (.inl (by trivial)))) dm_nil))) (db_of (de_c (v := .int 4) (pe_glob (by rfl) T.c_MOST_TESTS ⟨_, rfl⟩) fun _ => .int _)) (nomark _)))))
  (ds_one (ds_ret gok0 rfl de_non))
  ds_nil)
  (ds_one (ds_ret gok0 rfl (de_tup (da_cons (de_type call_tuple_of cs_tuple (by rfl) T.n_tuple (by decide +kernel) (dm_bor (db_var 1 (pv 1) (.inr (.inl (by trivial)))) dm_nil)) (da_cons (de_type call_tuple_of cs_tuple (by rfl) T.n_tuple (by decide +kernel) (dm_bor (db_var 2 (pv 2) (.inr (.inl (by trivial)))) dm_nil)) da_nil))))))))))
theorem ok_Points_init (T : Txt w K mg) : FnOk P w K mg base (L2.CX P w) 1 T.f_Points_init T.fd_Points_init ["self", "patterns"] (spI K T.cm T.a_Points [false] F_Points_init)   := dokI (k := 0) T.F_Points_init sc_Points_init T.cm_Points rfl (by decide) (fun _ => rfl) fun cdv A outer s H E a hr =>
  (ds_cons (ds_setO 2 gok0 (show 2 < 9 by decide) sc_Points_init.nd rfl (by first | exact Or.inl rfl | exact Or.inr rfl) (de_lst da_nil))
  (ds_cons (ds_setO 3 gok0 (show 3 < 9 by decide) sc_Points_init.nd rfl (by first | exact Or.inl rfl | exact Or.inr rfl) (de_lst da_nil))
  (ds_cons (ds_setO 4 gok0 (show 4 < 9 by decide) sc_Points_init.nd rfl (by first | exact Or.inl rfl | exact Or.inr rfl) (de_disp (ps := [((dC (.str (Sg [115, 116, 97, 114, 116]))), (dC (.int 0))), ((dC (.str (Sg [97, 110, 99, 101, 115, 116, 111, 114]))), (dC (.int 0))), ((dC (.str (Sg [112, 97, 114, 101, 110, 116]))), (dC (.int 0))), ((dC (.str (Sg [101, 108, 100, 101, 114]))), (dC (.int 0)))]) (pps_cons (de_strL (by decide +kernel)) de_int (pps_cons (de_strL (by decide +kernel)) de_int (pps_cons (de_strL (by decide +kernel)) de_int (pps_cons (de_strL (by decide +kernel)) de_int pps_nil)))) rfl rfl (by simp) (by decide) rfl))
  (ds_cons (ds_set 5 gok0 sc_Points_init.nd rfl (by first | exact Or.inl rfl | exact Or.inr rfl) de_int)
  (ds_cons (ds_for gok0 (passes_of rfl) rfl (di_list (de_var 1 (pv 1) rfl)) (dg_name 6 sc_Points_init.nd rfl (by first | exact Or.inl rfl | exact Or.inr rfl))
  (ds_cons (ds_for gok0 (passes_of rfl) rfl (di_zipTT T.n_zip (by rfl) (da_cons (de_fld T.cm_Pattern T.cl_Pattern T.na_Pattern_tests (db_var 6 (pv 6) (.inl (by rfl)))) (da_cons (de_fld T.cm_Pattern T.cl_Pattern T.na_Pattern_links (db_var 6 (pv 6) (.inl (by rfl)))) da_nil))) (dg_tup rfl (dg_cons (dg_name 7 sc_Points_init.nd rfl (by first | exact Or.inl rfl | exact Or.inr rfl)) (dg_cons (dg_name 8 sc_Points_init.nd rfl (by first | exact Or.inl rfl | exact Or.inr rfl)) dg_nil)))
  (ds_cons (ds_app 2 gok0 rfl (pv 2) (de_tup (da_cons (de_var 7 (pv 7) rfl) (da_cons (de_var 5 (pv 5) rfl) da_nil))))
  (ds_cons (ds_put 4 gok0 hr rfl (pv 4) (de_var 8 (pv 8) rfl) (de_op or_add os_add (db_of (de_getZ hr (db_var 4 (pv 4) (.inr (.inl (by trivial)))) (db_var 8 (pv 8) (.inl (by rfl))) (fun _ _ => rfl))) (db_var 5 (pv 5) (.inl (by rfl)))))
  (ds_one (ds_set 5 gok0 sc_Points_init.nd rfl (by first | exact Or.inl rfl | exact Or.inr rfl) (de_op or_mulX os_mulX (db_var 5 (pv 5) (.inl (by rfl))) (db_of de_int)))))))
  (ds_one (ds_app 3 gok0 rfl (pv 3) (de_op or_fdiv os_fdiv (db_var 5 (pv 5) (.inl (by rfl))) (db_of de_int))))))
  (ds_pub 2 (ds_cons (ds_fst 0 gok0 T.cm_Points T.cl_Points T.na_Points_tests trivial (pv 0) (de_var 2 (pv 2) rfl))
  (ds_pub 4 (ds_cons (ds_fst 0 gok0 T.cm_Points T.cl_Points T.na_Points_linked trivial (pv 0) (de_var 4 (pv 4) rfl))
  (ds_pub 3 (ds_one (ds_fst 0 gok0 T.cm_Points T.cl_Points T.na_Points_ends trivial (pv 0) (de_var 3 (pv 3) rfl))) (.inl rfl))) (.inl rfl))) (.inl rfl)))))))
theorem ok_Pattern_init (T : Txt w K mg) : FnOk P w K mg base (L2.CX P w) 4 T.f_Pattern_init T.fd_Pattern_init ["self", "text"] (spI K T.cm T.a_Pattern [false] F_Pattern_init)   := dokI (k := 3) T.F_Pattern_init sc_Pattern_init T.cm_Pattern rfl (by decide) (fun _ => rfl) fun cdv A outer s H E a hr =>
  (ds_cons (ds_set 2 gok0 sc_Pattern_init.nd rfl (by first | exact Or.inl rfl | exact Or.inr rfl) (de_callV (ok_read_pattern T) (takes_of rfl rfl rfl rfl) (hr.mono (by decide)) (by rfl) T.g_read_pattern T.F_read_pattern.kp T.b_read_pattern (dm_val (de_var 1 (pv 1) rfl) dm_nil)))
  (ds_cons (ds_if gok0 (dt_cmp op_isN os_is (db_var 2 (pv 2) (.inl (by rfl))) (db_of de_non) (nomark _))
  (ds_one (ds_raise1 gok0 T.cm_BadPattern rfl (takes_of rfl rfl rfl rfl) T.o_BadPattern T.i_BadPattern T.ti_BadPattern T.no_BadPattern_text (ox_BadPattern T) (hr.mono (by decide)) T.b_BadPattern (by rfl) T.g_BadPattern (da_cons (de_var 1 (pv 1) rfl) da_nil)))
  ds_nil)
  (ds_cons (ds_fst 0 gok0 T.cm_Pattern T.cl_Pattern T.na_Pattern_text trivial (pv 0) (de_var 1 (pv 1) rfl))
  (ds_cons (ds_fst 0 gok0 T.cm_Pattern T.cl_Pattern T.na_Pattern_tests trivial (pv 0) (de_ix (db_var 2 (pv 2) (.inl (by rfl))) (db_of de_int) (fun _ _ => rfl)))
  (ds_one (ds_fst 0 gok0 T.cm_Pattern T.cl_Pattern T.na_Pattern_links trivial (pv 0) (de_ix (db_var 2 (pv 2) (.inl (by rfl))) (db_of de_int) (fun _ _ => rfl))))))))
theorem ok_Pattern_asked (T : Txt w K mg) : FnOk P w K mg base (L2.CX P w) 1 T.f_Pattern_asked T.fd_Pattern_asked ["self"] (spD K T.cm [true] false F_Pattern_asked)   := dok (G' := []) (k := 0) T.F_Pattern_asked sc_Pattern_asked rfl (by decide) fun cdv A outer s H E hr =>
  (ds_one (ds_ret gok0 rfl (de_bltn call_len cs_len (by rfl) T.n_len (by decide +kernel) (dm_bor (db_own (de_lc (own := [("test", 1)]) rfl sc_Pattern_asked.nd (di_tup (de_fld T.cm_Pattern T.cl_Pattern T.na_Pattern_tests (db_var 0 (pv 0) (.inr (.inr (by rfl)))))) (blkOk_by (own := [("test", 1)]) (N := ["self", "test"]) (sc := defScope s_Pattern_asked) (by decide +kernel)) (fun _ _ _ _ _ => (dg_name 1 sc_Pattern_asked.nd rfl (by first | exact Or.inl rfl | exact Or.inr rfl))) (fun _ _ _ _ _ => (dt_one (dt_cmp (or_ne hr.units) os_ne (db_of (de_ix (db_var 1 (pv 1) (.inl (by rfl))) (db_of de_int) (fun _ _ => rfl))) (db_of (de_strL (by decide +kernel))) (nomark _)))) (fun _ _ _ _ _ => (de_var 1 (pv 1) rfl)))) dm_nil))))
theorem ok_Pattern_named (T : Txt w K mg) : FnOk P w K mg base (L2.CX P w) 1 T.f_Pattern_named T.fd_Pattern_named ["self"] (spD K T.cm [true] false F_Pattern_named)   := dok (G' := []) (k := 0) T.F_Pattern_named sc_Pattern_named rfl (by decide) fun cdv A outer s H E hr =>
  (ds_one (ds_ret gok0 rfl (de_bltn call_len cs_len (by rfl) T.n_len (by decide +kernel) (dm_bor (db_own (de_lc (own := [("test", 1)]) rfl sc_Pattern_named.nd (di_tup (de_fld T.cm_Pattern T.cl_Pattern T.na_Pattern_tests (db_var 0 (pv 0) (.inr (.inr (by rfl)))))) (blkOk_by (own := [("test", 1)]) (N := ["self", "test"]) (sc := defScope s_Pattern_named) (by decide +kernel)) (fun _ _ _ _ _ => (dg_name 1 sc_Pattern_named.nd rfl (by first | exact Or.inl rfl | exact Or.inr rfl))) (fun _ _ _ _ _ => (dt_one (dt_cmp (or_ne hr.units) os_ne (db_of (de_ix (db_var 1 (pv 1) (.inl (by rfl))) (db_of de_int) (fun _ _ => rfl))) (db_of (de_strL (by decide +kernel))) (nomark _)))) (fun _ _ _ _ _ => (de_var 1 (pv 1) rfl)))) dm_nil))))
theorem ok_Rank_init (T : Txt w K mg) : FnOk P w K mg base (L2.CX P w) 1 T.f_Rank_init T.fd_Rank_init ["self", "firm", "marks", "kinds", "index"] (spI K T.cm T.a_Rank [false, false, false, false] F_Rank_init)   := dokI (k := 0) T.F_Rank_init sc_Rank_init T.cm_Rank rfl (by decide) (fun _ => rfl) fun cdv A outer s H E a hr =>
  (ds_cons (ds_fst 0 gok0 T.cm_Rank T.cl_Rank T.na_Rank_firm trivial (pv 0) (de_var 1 (pv 1) rfl))
  (ds_cons (ds_fst 0 gok0 T.cm_Rank T.cl_Rank T.na_Rank_marks trivial (pv 0) (de_var 2 (pv 2) rfl))
  (ds_cons (ds_fst 0 gok0 T.cm_Rank T.cl_Rank T.na_Rank_kinds trivial (pv 0) (de_var 3 (pv 3) rfl))
  (ds_one (ds_fst 0 gok0 T.cm_Rank T.cl_Rank T.na_Rank_index trivial (pv 0) (de_var 4 (pv 4) rfl))))))
theorem ok_Rank_parts (T : Txt w K mg) : FnOk P w K mg base (L2.CX P w) 1 T.f_Rank_parts T.fd_Rank_parts ["self"] (spD K T.cm [true] false F_Rank_parts)   := dok (G' := []) (k := 0) T.F_Rank_parts sc_Rank_parts rfl (by decide) fun cdv A outer s H E hr =>
  (ds_one (ds_ret gok0 rfl (de_tup (da_cons (de_fld T.cm_Rank T.cl_Rank T.na_Rank_firm (db_var 0 (pv 0) (.inr (.inr (by rfl))))) (da_cons (de_fld T.cm_Rank T.cl_Rank T.na_Rank_marks (db_var 0 (pv 0) (.inr (.inr (by rfl))))) (da_cons (de_fld T.cm_Rank T.cl_Rank T.na_Rank_kinds (db_var 0 (pv 0) (.inr (.inr (by rfl))))) (da_cons (de_fld T.cm_Rank T.cl_Rank T.na_Rank_index (db_var 0 (pv 0) (.inr (.inr (by rfl))))) da_nil)))))))
theorem ok_Rank_eq (T : Txt w K mg) : FnOk P w K mg base (L2.CX P w) 2 T.f_Rank_eq T.fd_Rank_eq ["self", "other"] (spD K T.cm [true, true] false F_Rank_eq)   := dok (G' := []) (k := 1) T.F_Rank_eq sc_Rank_eq rfl (by decide) fun cdv A outer s H E hr =>
  (ds_cons (ds_if gok0 (dt_not (dt_val (de_isO T.cm_Rank T.ic_Rank T.n_isinstance (by rfl) (by rfl) T.g_Rank (db_var 1 (pv 1) (.inr (.inr (by rfl)))))))
  ds_bad
  ds_nil)
  (ds_one (ds_ret gok0 rfl (de_cmp (or_eq hr.units) os_eq (db_of (de_meth0 (rm := false) T.cm_Rank T.cl_Rank T.m_Rank_parts (ok_Rank_parts T) (takes_of rfl rfl rfl rfl) (hr.mono (by decide)) T.b_Rank_parts (db_var 0 (pv 0) (.inr (.inr (by rfl)))))) (db_of (de_meth0 (rm := false) T.cm_Rank T.cl_Rank T.m_Rank_parts (ok_Rank_parts T) (takes_of rfl rfl rfl rfl) (hr.mono (by decide)) T.b_Rank_parts (db_var 1 (pv 1) (.inr (.inr (by rfl)))))) (nomark _)))))
theorem ok_Rank_ne (T : Txt w K mg) : FnOk P w K mg base (L2.CX P w) 2 T.f_Rank_ne T.fd_Rank_ne ["self", "other"] (spD K T.cm [true, true] false F_Rank_ne)   := dok (G' := []) (k := 1) T.F_Rank_ne sc_Rank_ne rfl (by decide) fun cdv A outer s H E hr =>
  (ds_cons (ds_if gok0 (dt_not (dt_val (de_isO T.cm_Rank T.ic_Rank T.n_isinstance (by rfl) (by rfl) T.g_Rank (db_var 1 (pv 1) (.inr (.inr (by rfl)))))))
  ds_bad
  ds_nil)
  (ds_one (ds_ret gok0 rfl (de_cmp (or_ne hr.units) os_ne (db_of (de_meth0 (rm := false) T.cm_Rank T.cl_Rank T.m_Rank_parts (ok_Rank_parts T) (takes_of rfl rfl rfl rfl) (hr.mono (by decide)) T.b_Rank_parts (db_var 0 (pv 0) (.inr (.inr (by rfl)))))) (db_of (de_meth0 (rm := false) T.cm_Rank T.cl_Rank T.m_Rank_parts (ok_Rank_parts T) (takes_of rfl rfl rfl rfl) (hr.mono (by decide)) T.b_Rank_parts (db_var 1 (pv 1) (.inr (.inr (by rfl)))))) (nomark _)))))
theorem ok_Rank_lt (T : Txt w K mg) : FnOk P w K mg base (L2.CX P w) 2 T.f_Rank_lt T.fd_Rank_lt ["self", "other"] (spD K T.cm [true, true] false F_Rank_lt)   := dok (G' := []) (k := 1) T.F_Rank_lt sc_Rank_lt rfl (by decide) fun cdv A outer s H E hr =>
  (ds_cons (ds_if gok0 (dt_not (dt_val (de_isO T.cm_Rank T.ic_Rank T.n_isinstance (by rfl) (by rfl) T.g_Rank (db_var 1 (pv 1) (.inr (.inr (by rfl)))))))
  ds_bad
  ds_nil)
  (ds_one (ds_ret gok0 rfl (de_cmp (op_ordLt hr.units0) os_ordLt (db_of (de_meth0 (rm := false) T.cm_Rank T.cl_Rank T.m_Rank_parts (ok_Rank_parts T) (takes_of rfl rfl rfl rfl) (hr.mono (by decide)) T.b_Rank_parts (db_var 0 (pv 0) (.inr (.inr (by rfl)))))) (db_of (de_meth0 (rm := false) T.cm_Rank T.cl_Rank T.m_Rank_parts (ok_Rank_parts T) (takes_of rfl rfl rfl rfl) (hr.mono (by decide)) T.b_Rank_parts (db_var 1 (pv 1) (.inr (.inr (by rfl)))))) (nomark _)))))
theorem ok_Rank_le (T : Txt w K mg) : FnOk P w K mg base (L2.CX P w) 2 T.f_Rank_le T.fd_Rank_le ["self", "other"] (spD K T.cm [true, true] false F_Rank_le)   := dok (G' := []) (k := 1) T.F_Rank_le sc_Rank_le rfl (by decide) fun cdv A outer s H E hr =>
  (ds_cons (ds_if gok0 (dt_not (dt_val (de_isO T.cm_Rank T.ic_Rank T.n_isinstance (by rfl) (by rfl) T.g_Rank (db_var 1 (pv 1) (.inr (.inr (by rfl)))))))
  ds_bad
  ds_nil)
  (ds_one (ds_ret gok0 rfl (de_cmp (op_ordLtE hr.units0) os_ordLtE (db_of (de_meth0 (rm := false) T.cm_Rank T.cl_Rank T.m_Rank_parts (ok_Rank_parts T) (takes_of rfl rfl rfl rfl) (hr.mono (by decide)) T.b_Rank_parts (db_var 0 (pv 0) (.inr (.inr (by rfl)))))) (db_of (de_meth0 (rm := false) T.cm_Rank T.cl_Rank T.m_Rank_parts (ok_Rank_parts T) (takes_of rfl rfl rfl rfl) (hr.mono (by decide)) T.b_Rank_parts (db_var 1 (pv 1) (.inr (.inr (by rfl)))))) (nomark _)))))
theorem ok_Rank_gt (T : Txt w K mg) : FnOk P w K mg base (L2.CX P w) 2 T.f_Rank_gt T.fd_Rank_gt ["self", "other"] (spD K T.cm [true, true] false F_Rank_gt)   := dok (G' := []) (k := 1) T.F_Rank_gt sc_Rank_gt rfl (by decide) fun cdv A outer s H E hr =>
  (ds_cons (ds_if gok0 (dt_not (dt_val (de_isO T.cm_Rank T.ic_Rank T.n_isinstance (by rfl) (by rfl) T.g_Rank (db_var 1 (pv 1) (.inr (.inr (by rfl)))))))
  ds_bad
  ds_nil)
  (ds_one (ds_ret gok0 rfl (de_cmp (op_ordGt hr.units0) os_ordGt (db_of (de_meth0 (rm := false) T.cm_Rank T.cl_Rank T.m_Rank_parts (ok_Rank_parts T) (takes_of rfl rfl rfl rfl) (hr.mono (by decide)) T.b_Rank_parts (db_var 0 (pv 0) (.inr (.inr (by rfl)))))) (db_of (de_meth0 (rm := false) T.cm_Rank T.cl_Rank T.m_Rank_parts (ok_Rank_parts T) (takes_of rfl rfl rfl rfl) (hr.mono (by decide)) T.b_Rank_parts (db_var 1 (pv 1) (.inr (.inr (by rfl)))))) (nomark _)))))
theorem ok_Rank_ge (T : Txt w K mg) : FnOk P w K mg base (L2.CX P w) 2 T.f_Rank_ge T.fd_Rank_ge ["self", "other"] (spD K T.cm [true, true] false F_Rank_ge)   := dok (G' := []) (k := 1) T.F_Rank_ge sc_Rank_ge rfl (by decide) fun cdv A outer s H E hr =>
  (ds_cons (ds_if gok0 (dt_not (dt_val (de_isO T.cm_Rank T.ic_Rank T.n_isinstance (by rfl) (by rfl) T.g_Rank (db_var 1 (pv 1) (.inr (.inr (by rfl)))))))
  ds_bad
  ds_nil)
  (ds_one (ds_ret gok0 rfl (de_cmp (op_ordGtE hr.units0) os_ordGtE (db_of (de_meth0 (rm := false) T.cm_Rank T.cl_Rank T.m_Rank_parts (ok_Rank_parts T) (takes_of rfl rfl rfl rfl) (hr.mono (by decide)) T.b_Rank_parts (db_var 0 (pv 0) (.inr (.inr (by rfl)))))) (db_of (de_meth0 (rm := false) T.cm_Rank T.cl_Rank T.m_Rank_parts (ok_Rank_parts T) (takes_of rfl rfl rfl rfl) (hr.mono (by decide)) T.b_Rank_parts (db_var 1 (pv 1) (.inr (.inr (by rfl)))))) (nomark _)))))
theorem ok_read_value (T : Txt w K mg) : FnOk P w K mg base (L2.CX P w) 3 T.f_read_value T.fd_read_value ["text"] (spD K T.cm [false] false F_read_value)   := dok (G' := []) (k := 2) T.F_read_value sc_read_value rfl (by decide) fun cdv A outer s H E hr =>
  (ds_cons (ds_set 1 gok0 sc_read_value.nd rfl (by first | exact Or.inl rfl | exact Or.inr rfl) (de_pub (de_m1 PySem.F.slot_str_split PySem.F.type_str_split mt_split ms_split (db_var 0 (pv 0) (.inl (by rfl))) (db_of (de_strL (by decide +kernel))))))
  (ds_cons (ds_set 2 gok0 sc_read_value.nd rfl (by first | exact Or.inl rfl | exact Or.inr rfl) (de_and (de_cmp (or_eq hr.units) os_eq (db_of (de_bltn call_len cs_len (by rfl) T.n_len (by decide +kernel) (dm_bor (db_var 1 (pv 1) (.inl (by rfl))) dm_nil))) (db_of de_int) (nomark _)) (de_one (de_cmp (or_eq hr.units) os_eq (db_of (de_ix (db_var 1 (pv 1) (.inl (by rfl))) (db_of de_int) (fun _ _ => rfl))) (db_of (de_strL (by decide +kernel))) (nomark _)))))
  (ds_cons (ds_if gok0 (PW.pt (dw_or (PW.pt (dw_and (dt_cmp (or_ne hr.units) os_ne (db_of (de_bltn call_len cs_len (by rfl) T.n_len (by decide +kernel) (dm_bor (db_var 1 (pv 1) (.inl (by rfl))) dm_nil))) (db_of de_int) (nomark _)) (dw_and1 (dt_not (dt_tru (db_var 2 (pv 2) (.inl (by rfl))) (by intro _; rfl)))))) (dw_or1 (dt_mdNin T.kd_RANGES (db_of (de_ix (db_var 1 (pv 1) (.inl (by rfl))) (db_of de_int) (fun _ _ => rfl))) (pe_glob (v := .ref T.k_RANGES) (by rfl) T.c_RANGES rfl) (by rfl)))))
  (ds_one (ds_raise1 gok0 T.cm_BadValue rfl (takes_of rfl rfl rfl rfl) T.o_BadValue T.i_BadValue T.ti_BadValue T.no_BadValue_text (ox_BadValue T) (hr.mono (by decide)) T.b_BadValue (by rfl) T.g_BadValue (da_cons (de_var 0 (pv 0) rfl) da_nil)))
  ds_nil)
  (ds_cons (ds_asg gok0 (de_mdGet T.kd_RANGES (pe_glob (v := .ref T.k_RANGES) (by rfl) T.c_RANGES rfl) (db_of (de_ix (db_var 1 (pv 1) (.inl (by rfl))) (db_of de_int) (fun _ _ => rfl))) (fun _ _ => rfl)) (dg_tup rfl (dg_cons (dg_name 3 sc_read_value.nd rfl (by first | exact Or.inl rfl | exact Or.inr rfl)) (dg_cons (dg_name 4 sc_read_value.nd rfl (by first | exact Or.inl rfl | exact Or.inr rfl)) dg_nil))))
  (ds_cons (ds_set 5 gok0 sc_read_value.nd rfl (by first | exact Or.inl rfl | exact Or.inr rfl) (de_callV (ok_digits_value T) (takes_of rfl rfl rfl rfl) (hr.mono (by decide)) (by rfl) T.g_digits_value T.F_digits_value.kp T.b_digits_value (dm_val (de_ix (db_var 1 (pv 1) (.inl (by rfl))) (db_of de_int) (fun _ _ => rfl)) dm_nil)))
  (ds_cons (ds_if gok0 (PW.pt (dw_or (dt_cmp op_isN os_is (db_var 5 (pv 5) (.inl (by rfl))) (db_of de_non) (nomark _)) (dw_or1 (dt_not (dt_chain or_le os_ord or_le os_ord (db_var 3 (pv 3) (.inl (by rfl))) (db_var 5 (pv 5) (.inl (by rfl))) (db_var 4 (pv 4) (.inl (by rfl))))))))
  (ds_one (ds_raise1 gok0 T.cm_BadValue rfl (takes_of rfl rfl rfl rfl) T.o_BadValue T.i_BadValue T.ti_BadValue T.no_BadValue_text (ox_BadValue T) (hr.mono (by decide)) T.b_BadValue (by rfl) T.g_BadValue (da_cons (de_var 0 (pv 0) rfl) da_nil)))
  ds_nil)
  (ds_one (ds_ret gok0 rfl (de_tup (da_cons (de_ix (db_var 1 (pv 1) (.inl (by rfl))) (db_of de_int) (fun _ _ => rfl)) (da_cons (de_var 5 (pv 5) rfl) (da_cons (de_var 2 (pv 2) rfl) da_nil))))))))))))
theorem ok_read_row (T : Txt w K mg) : FnOk P w K mg base (L2.CX P w) 6 T.f_read_row T.fd_read_row ["line", "number"] (spD K T.cm [false, false] false F_read_row)   := dok (G' := []) (k := 5) T.F_read_row sc_read_row rfl (by decide) fun cdv A outer s H E hr =>
  (ds_cons (ds_asg gok0 (de_m1 PySem.F.slot_str_partition PySem.F.type_str_partition mt_partition ms_part (db_var 0 (pv 0) (.inl (by rfl))) (db_of (de_strL (by decide +kernel)))) (dg_tup rfl (dg_cons (dg_name 2 sc_read_row.nd rfl (by first | exact Or.inl rfl | exact Or.inr rfl)) (dg_cons (dg_name 3 sc_read_row.nd rfl (by first | exact Or.inl rfl | exact Or.inr rfl)) (dg_cons (dg_name 4 sc_read_row.nd rfl (by first | exact Or.inl rfl | exact Or.inr rfl)) dg_nil)))))
  (ds_cons (ds_thru (ds_cons (ds_set 5 gokC sc_read_row.nd rfl (by first | exact Or.inl rfl | exact Or.inr rfl) (de_pub (de_make T.mk_Pattern (ok_Pattern_init T) takes0 (hr.mono (by decide)) (by rfl) T.g_Pattern T.b_Pattern_init (dm_val (de_var 2 (pv 2) rfl) dm_nil))))
  (ds_one (ds_asg gokC (de_callV (ok_read_value T) takes0 (hr.mono (by decide)) (by rfl) T.g_read_value T.F_read_value.kp T.b_read_value (dm_val (de_var 4 (pv 4) rfl) dm_nil)) (dg_tup rfl (dg_cons (dg_name 6 sc_read_row.nd rfl (by first | exact Or.inl rfl | exact Or.inr rfl)) (dg_cons (dg_name 7 sc_read_row.nd rfl (by first | exact Or.inl rfl | exact Or.inr rfl)) (dg_cons (dg_name 8 sc_read_row.nd rfl (by first | exact Or.inl rfl | exact Or.inr rfl)) dg_nil))))))))
  (ds_one (ds_ret gok0 rfl (de_tup (da_cons (de_var 5 (pv 5) rfl) (da_cons (de_var 6 (pv 6) rfl) (da_cons (de_var 7 (pv 7) rfl) (da_cons (de_var 8 (pv 8) rfl) da_nil)))))))))
theorem ok_descending (T : Txt w K mg) : FnOk P w K mg base (L2.CX P w) 3 T.f_descending T.fd_descending ["ranks"] (spD K T.cm [false] false F_descending)   := dok (G' := []) (k := 2) T.F_descending sc_descending rfl (by decide) fun cdv A outer s H E hr =>
  (ds_cons (ds_setO 1 gok0 (show 1 < 4 by decide) sc_descending.nd rfl (by first | exact Or.inl rfl | exact Or.inr rfl) (de_lst da_nil))
  (ds_cons (ds_for gok0 (passes_of rfl) rfl (di_list (de_var 0 (pv 0) rfl)) (dg_name 2 sc_descending.nd rfl (by first | exact Or.inl rfl | exact Or.inr rfl))
  (ds_cons (ds_set 3 gok0 sc_descending.nd rfl (by first | exact Or.inl rfl | exact Or.inr rfl) de_int)
  (ds_cons (ds_while 100000 gok0 (passes_of rfl) (PW.pt (dw_and (dt_cmp or_lt os_ord (db_var 3 (pv 3) (.inl (by rfl))) (db_of (de_bltn call_len cs_len (by rfl) T.n_len (by decide +kernel) (dm_bor (db_var 1 (pv 1) (.inr (.inl (by trivial)))) dm_nil))) (nomark _)) (dw_and1 (dt_cmp (op_cmpO (op := .Gt) (fun _ _ => rfl) T.nf_Rank T.m_Rank___gt__ (ok_Rank_gt T) (hr.mono (by decide)) T.b_Rank_gt) (os_binO (rm := false) T.cm_Rank) (db_of (de_ix (db_var 1 (pv 1) (.inr (.inl (by trivial)))) (db_var 3 (pv 3) (.inl (by rfl))) (fun _ _ => rfl))) (db_var 2 (pv 2) (.inl (by rfl))) (nomark _)))))
  (ds_one (ds_set 3 gok0 sc_descending.nd rfl (by first | exact Or.inl rfl | exact Or.inr rfl) (de_op or_add os_add (db_var 3 (pv 3) (.inl (by rfl))) (db_of de_int)))))
  (ds_one (ds_ins 1 gok0 rfl (pv 1) (de_var 3 (pv 3) rfl) (de_var 2 (pv 2) rfl))))))
  (ds_pub 1 (ds_one (ds_ret gok0 rfl (de_pub (de_lc (own := [("one", 2)]) rfl sc_descending.nd (di_list (de_var 1 (pv 1) rfl)) (blkOk_by (own := [("one", 2)]) (N := ["ranks", "order", "one", "at"]) (sc := defScope s_descending) (by decide +kernel)) (fun _ _ _ _ _ => (dg_name 2 sc_descending.nd rfl (by first | exact Or.inl rfl | exact Or.inr rfl))) (fun _ _ _ _ _ => dt_nil) (fun _ _ _ _ _ => (de_fld T.cm_Rank T.cl_Rank T.na_Rank_index (db_var 2 (pv 2) (.inl (by rfl))))))))) (.inl rfl))))
theorem ok_Sheet_row (T : Txt w K mg) : FnOk P w K mg base (L2.CX P w) 3 T.f_Sheet_row T.fd_Sheet_row ["self", "index"] (spD K T.cm [true, false] false F_Sheet_row)   := dok (G' := []) (k := 2) T.F_Sheet_row sc_Sheet_row rfl (by decide) fun cdv A outer s H E hr =>
  (ds_cons (ds_if gok0 (dt_not (dt_chain or_le os_ord or_lt os_ord (db_of de_int) (db_var 1 (pv 1) (.inl (by rfl))) (db_of (de_bltn call_len cs_len (by rfl) T.n_len (by decide +kernel) (dm_bor (db_of (de_fld T.cm_Sheet T.cl_Sheet T.na_Sheet_rows (db_var 0 (pv 0) (.inr (.inr (by rfl)))))) dm_nil)))))
  (ds_one (ds_raise1 gok0 T.cm_NoSuchNumber rfl (takes_of rfl rfl rfl rfl) T.o_NoSuchNumber T.i_NoSuchNumber T.ti_NoSuchNumber T.no_NoSuchNumber_number (ox_NoSuchNumber T) (hr.mono (by decide)) T.b_NoSuchNumber (by rfl) T.g_NoSuchNumber (da_cons (de_var 1 (pv 1) rfl) da_nil)))
  ds_nil)
  (ds_one (ds_ret gok0 rfl (de_ix (db_of (de_fld T.cm_Sheet T.cl_Sheet T.na_Sheet_rows (db_var 0 (pv 0) (.inr (.inr (by rfl)))))) (db_var 1 (pv 1) (.inl (by rfl))) (fun _ _ => rfl)))))
theorem ok_Sheet_rank (T : Txt w K mg) : FnOk P w K mg base (L2.CX P w) 4 T.f_Sheet_rank T.fd_Sheet_rank ["self", "index"] (spD K T.cm [true, false] false F_Sheet_rank)   := dok (G' := []) (k := 3) T.F_Sheet_rank sc_Sheet_rank rfl (by decide) fun cdv A outer s H E hr =>
  (ds_cons (ds_asg gok0 (de_meth (rm := false) T.cm_Sheet T.cl_Sheet T.m_Sheet_row (ok_Sheet_row T) (takes_of rfl rfl rfl rfl) (hr.mono (by decide)) T.b_Sheet_row (db_var 0 (pv 0) (.inr (.inr (by rfl)))) (dm_val (de_var 1 (pv 1) rfl) dm_nil)) (dg_tup rfl (dg_cons (dg_name 2 sc_Sheet_rank.nd rfl (by first | exact Or.inl rfl | exact Or.inr rfl)) (dg_cons (dg_name 3 sc_Sheet_rank.nd rfl (by first | exact Or.inl rfl | exact Or.inr rfl)) (dg_cons (dg_name 4 sc_Sheet_rank.nd rfl (by first | exact Or.inl rfl | exact Or.inr rfl)) (dg_cons (dg_name 5 sc_Sheet_rank.nd rfl (by first | exact Or.inl rfl | exact Or.inr rfl)) dg_nil))))))
  (ds_one (ds_ret gok0 rfl (de_pub (de_make T.mk_Rank (ok_Rank_init T) (takes_of rfl rfl rfl rfl) (hr.mono (by decide)) (by rfl) T.g_Rank T.b_Rank_init (dm_val (de_var 5 (pv 5) rfl) (dm_val (de_prop (rm := false) T.cm_Pattern T.cl_Pattern T.pr_Pattern_asked (ok_Pattern_asked T) (hr.mono (by decide)) T.b_Pattern_asked (db_var 2 (pv 2) (.inl (by rfl)))) (dm_val (de_prop (rm := false) T.cm_Pattern T.cl_Pattern T.pr_Pattern_named (ok_Pattern_named T) (hr.mono (by decide)) T.b_Pattern_named (db_var 2 (pv 2) (.inl (by rfl)))) (dm_val (de_var 1 (pv 1) rfl) dm_nil)))))))))
theorem ok_Sheet_init (T : Txt w K mg) : FnOk P w K mg base (L2.CX P w) 7 T.f_Sheet_init T.fd_Sheet_init ["self", "lines"] (spI K T.cm T.a_Sheet [false] F_Sheet_init)   := dokI (k := 6) T.F_Sheet_init sc_Sheet_init T.cm_Sheet rfl (by decide) (fun _ => rfl) fun cdv A outer s H E a hr =>
  (ds_cons (ds_if gok0 (dt_cmp or_gt os_ord (db_of (de_bltn call_len cs_len (by rfl) T.n_len (by decide +kernel) (dm_bor (db_var 1 (pv 1) (.inl (by rfl))) dm_nil))) (db_of (de_c (v := .int 12) (pe_glob (by rfl) T.c_MOST_ROWS ⟨_, rfl⟩) fun _ => .int _)) (nomark _))
  (ds_one (ds_raise1 gok0 T.cm_TooLarge rfl (takes_of rfl rfl rfl rfl) T.o_TooLarge T.i_TooLarge T.ti_TooLarge T.no_TooLarge_many (ox_TooLarge T) (hr.mono (by decide)) T.b_TooLarge (by rfl) T.g_TooLarge (da_cons (de_bltn call_len cs_len (by rfl) T.n_len (by decide +kernel) (dm_bor (db_var 1 (pv 1) (.inl (by rfl))) dm_nil)) da_nil)))
  ds_nil)
  (ds_cons (ds_fst 0 gok0 T.cm_Sheet T.cl_Sheet T.na_Sheet_rows trivial (pv 0) (de_pub (de_lc (own := [("at", 2), ("line", 3)]) rfl sc_Sheet_init.nd (di_enumL T.n_enumerate (by rfl) (de_var 1 (pv 1) rfl)) (blkOk_by (own := [("at", 2), ("line", 3)]) (N := ["self", "lines", "at", "line", "one"]) (sc := defScope s_Sheet_init) (by decide +kernel)) (fun _ _ _ _ _ => (dg_tup rfl (dg_cons (dg_name 2 sc_Sheet_init.nd rfl (by first | exact Or.inl rfl | exact Or.inr rfl)) (dg_cons (dg_name 3 sc_Sheet_init.nd rfl (by first | exact Or.inl rfl | exact Or.inr rfl)) dg_nil)))) (fun _ _ _ _ _ => dt_nil) (fun _ _ _ _ _ => (de_callV (ok_read_row T) takes0 (hr.mono (by decide)) (by rfl) T.g_read_row T.F_read_row.kp T.b_read_row (dm_val (de_var 3 (pv 3) rfl) (dm_val (de_op or_add os_add (db_var 2 (pv 2) (.inl (by rfl))) (db_of de_int)) dm_nil)))))))
  (ds_cons (ds_fst 0 gok0 T.cm_Sheet T.cl_Sheet T.na_Sheet_lines trivial (pv 0) (de_pub (de_type call_list_of cs_list (by rfl) T.n_list (by decide +kernel) (dm_bor (db_var 1 (pv 1) (.inl (by rfl))) dm_nil))))
  (ds_cons (ds_fst 0 gok0 T.cm_Sheet T.cl_Sheet T.na_Sheet_points trivial (pv 0) (de_pub (de_make T.mk_Points (ok_Points_init T) (takes_of rfl rfl rfl rfl) (hr.mono (by decide)) (by rfl) T.g_Points T.b_Points_init (dm_val (de_pub (de_lc (own := [("one", 4)]) rfl sc_Sheet_init.nd (di_list (de_fld T.cm_Sheet T.cl_Sheet T.na_Sheet_rows (db_var 0 (pv 0) (.inr (.inl (by trivial)))))) (blkOk_by (own := [("one", 4)]) (N := ["self", "lines", "at", "line", "one"]) (sc := defScope s_Sheet_init) (by decide +kernel)) (fun _ _ _ _ _ => (dg_name 4 sc_Sheet_init.nd rfl (by first | exact Or.inl rfl | exact Or.inr rfl))) (fun _ _ _ _ _ => dt_nil) (fun _ _ _ _ _ => (de_ix (db_var 4 (pv 4) (.inl (by rfl))) (db_of de_int) (fun _ _ => rfl))))) dm_nil))))
  (ds_one (ds_fst 0 gok0 T.cm_Sheet T.cl_Sheet T.na_Sheet_order trivial (pv 0) (de_callV (ok_descending T) (takes_of rfl rfl rfl rfl) (hr.mono (by decide)) (by rfl) T.g_descending T.F_descending.kp T.b_descending (dm_val (de_pub (de_lc (own := [("at", 2)]) rfl sc_Sheet_init.nd (di_rng1 T.n_range (by rfl) (da_cons (de_bltn call_len cs_len (by rfl) T.n_len (by decide +kernel) (dm_bor (db_of (de_fld T.cm_Sheet T.cl_Sheet T.na_Sheet_rows (db_var 0 (pv 0) (.inr (.inl (by trivial)))))) dm_nil)) da_nil)) (blkOk_by (own := [("at", 2)]) (N := ["self", "lines", "at", "line", "one"]) (sc := defScope s_Sheet_init) (by decide +kernel)) (fun _ _ _ _ _ => (dg_name 2 sc_Sheet_init.nd rfl (by first | exact Or.inl rfl | exact Or.inr rfl))) (fun _ _ _ _ _ => dt_nil) (fun _ _ _ _ _ => (de_meth (rm := false) T.cm_Sheet T.cl_Sheet T.m_Sheet_rank (ok_Sheet_rank T) takes0 (hr.mono (by decide)) T.b_Sheet_rank (db_var 0 (pv 0) (.inr (.inl (by trivial)))) (dm_val (de_var 2 (pv 2) rfl) dm_nil))))) dm_nil))))))))
theorem ok_l_cell (T : Txt w K mg) : FnOk P w K mg base (L2.CX P w) 1 T.f_l_cell T.fd_l_cell ["_law_script", "_law_k"] (spD K T.cm [false, false] false F_l_cell)   := dok (G' := []) (k := 0) T.F_l_cell sc_l_cell rfl (by decide) fun cdv A outer s H E hr =>
  (ds_cons (ds_if gok0 (dt_cmp or_lt os_ord (db_var 1 (pv 1) (.inl (by rfl))) (db_of (de_bltn call_len cs_len (by rfl) T.n_len (by decide +kernel) (dm_bor (db_var 0 (pv 0) (.inl (by rfl))) dm_nil))) (nomark _))
  (ds_one (ds_ret gok0 rfl (de_type cr_int cs_int (by rfl) T.n_int (by decide +kernel) (dm_bor (db_of (de_ix (db_var 0 (pv 0) (.inl (by rfl))) (db_var 1 (pv 1) (.inl (by rfl))) (fun _ _ => rfl))) dm_nil))))
  ds_nil)
  (ds_one (ds_ret gok0 rfl (de_op or_add os_add (db_of (de_op or_mulX os_mulX (db_of de_int) (db_var 1 (pv 1) (.inl (by rfl))))) (db_of de_int)))))
theorem ok_l_row (T : Txt w K mg) : FnOk P w K mg base (L2.CX P w) 1 T.f_l_row T.fd_l_row ["_law_cell_here", "_law_limits"] (spD K T.cm [false, false] false F_l_row)   := dok (G' := []) (k := 0) T.F_l_row sc_l_row rfl (by decide) fun cdv A outer s H E hr =>
  (ds_cons (ds_setO 2 gok0 (show 2 < 7 by decide) sc_l_row.nd rfl (by first | exact Or.inl rfl | exact Or.inr rfl) (de_lst da_nil))
  (ds_cons (ds_if gok0 (dt_cmp or_ge os_ord (db_var 0 (pv 0) (.inl (by rfl))) (db_of de_int) (nomark _))
  (ds_cons (ds_set 3 gok0 sc_l_row.nd rfl (by first | exact Or.inl rfl | exact Or.inr rfl) (de_op op_sub os_sub (db_var 0 (pv 0) (.inl (by rfl))) (db_of de_int)))
  (ds_cons (ds_for gok0 (passes_of rfl) rfl (di_list (de_var 1 (pv 1) rfl)) (dg_name 4 sc_l_row.nd rfl (by first | exact Or.inl rfl | exact Or.inr rfl))
  (ds_cons (ds_app 2 gok0 rfl (pv 2) (de_op op_mod os_mod (db_of (de_type cr_int cs_int (by rfl) T.n_int (by decide +kernel) (dm_bor (db_var 3 (pv 3) (.inl (by rfl))) dm_nil))) (db_var 4 (pv 4) (.inl (by rfl)))))
  (ds_one (ds_set 3 gok0 sc_l_row.nd rfl (by first | exact Or.inl rfl | exact Or.inr rfl) (de_op or_fdiv os_fdiv (db_var 3 (pv 3) (.inl (by rfl))) (db_var 4 (pv 4) (.inl (by rfl))))))))
  (ds_pub 2 (ds_one (ds_ret gok0 rfl (de_var 2 (pv 2) rfl))) (.inl rfl))))
  ds_nil)
  (ds_cons (ds_for gok0 (passes_of rfl) rfl (di_rng1 T.n_range (by rfl) (da_cons (de_bltn call_len cs_len (by rfl) T.n_len (by decide +kernel) (dm_bor (db_var 1 (pv 1) (.inl (by rfl))) dm_nil)) da_nil)) (dg_name 5 sc_l_row.nd rfl (by first | exact Or.inl rfl | exact Or.inr rfl))
  (ds_cons (ds_set 6 gok0 sc_l_row.nd rfl (by first | exact Or.inl rfl | exact Or.inr rfl) (de_op op_mod os_mod (db_of (de_type cr_int cs_int (by rfl) T.n_int (by decide +kernel) (dm_bor (db_of (de_op or_add os_add (db_of (de_op or_add os_add (db_of (de_op or_mulX os_mulX (db_var 0 (pv 0) (.inl (by rfl))) (db_of de_int))) (db_of (de_op or_mulX os_mulX (db_var 5 (pv 5) (.inl (by rfl))) (db_of de_int))))) (db_of de_int))) dm_nil))) (db_of de_int)))
  (ds_cons (ds_set 6 gok0 sc_l_row.nd rfl (by first | exact Or.inl rfl | exact Or.inr rfl) (de_op op_mod os_mod (db_of (de_type cr_int cs_int (by rfl) T.n_int (by decide +kernel) (dm_bor (db_of (de_op or_add os_add (db_of (de_op or_add os_add (db_of (de_op or_mulX os_mulX (db_var 6 (pv 6) (.inl (by rfl))) (db_of (de_op or_add os_add (db_of de_int) (db_of (de_op or_mulX os_mulX (db_of de_int) (db_var 5 (pv 5) (.inl (by rfl))))))))) (db_of (de_op or_mulX os_mulX (db_of (de_op or_mulX os_mulX (db_var 5 (pv 5) (.inl (by rfl))) (db_var 5 (pv 5) (.inl (by rfl))))) (db_of de_int))))) (db_of de_int))) dm_nil))) (db_of de_int)))
  (ds_one (ds_app 2 gok0 rfl (pv 2) (de_op op_mod os_mod (db_of (de_type cr_int cs_int (by rfl) T.n_int (by decide +kernel) (dm_bor (db_of (de_op or_fdiv os_fdiv (db_var 6 (pv 6) (.inl (by rfl))) (db_of de_int))) dm_nil))) (db_of (de_ix (db_var 1 (pv 1) (.inl (by rfl))) (db_var 5 (pv 5) (.inl (by rfl))) (fun _ _ => rfl)))))))))
  (ds_pub 2 (ds_one (ds_ret gok0 rfl (de_var 2 (pv 2) rfl))) (.inl rfl)))))
theorem ok_l_number (T : Txt w K mg) : FnOk P w K mg base (L2.CX P w) 1 T.f_l_number T.fd_l_number ["_law_value"] (spD K T.cm [false] false F_l_number)   := dok (G' := []) (k := 0) T.F_l_number sc_l_number rfl (by decide) fun cdv A outer s H E hr =>
  (ds_one (ds_ret gok0 rfl (de_and (de_isi "int" T.n_isinstance (by rfl) (by rfl) T.n_int (by decide +kernel) (db_var 0 (pv 0) (.inl (by rfl)))) (de_one (de_not (de_isi "bool" T.n_isinstance (by rfl) (by rfl) T.n_bool (by decide +kernel) (db_var 0 (pv 0) (.inl (by rfl)))))))))
theorem ok_l_parts (T : Txt w K mg) : FnOk P w K mg base (L2.CX P w) 2 T.f_l_parts T.fd_l_parts ["_law_cell_here", "_law_before"] (spD K T.cm [false, false] false F_l_parts)   := dok (G' := []) (k := 1) T.F_l_parts sc_l_parts rfl (by decide) fun cdv A outer s H E hr =>
  (ds_cons (ds_set 2 gok0 sc_l_parts.nd rfl (by first | exact Or.inl rfl | exact Or.inr rfl) (de_callV (ok_l_row T) (takes_of rfl rfl rfl rfl) (hr.mono (by decide)) (by rfl) T.g_l_row T.F_l_row.kp T.b_l_row (dm_val (de_var 0 (pv 0) rfl) (dm_val (de_pub (de_lst (da_cons de_int (da_cons de_int (da_cons de_int (da_cons de_int (da_cons de_int da_nil))))))) dm_nil))))
  (ds_cons (ds_set 3 gok0 sc_l_parts.nd rfl (by first | exact Or.inl rfl | exact Or.inr rfl) (de_tup (da_cons (de_cmp (or_eq hr.units) os_eq (db_of (de_ix (db_var 2 (pv 2) (.inl (by rfl))) (db_of de_int) (fun _ _ => rfl))) (db_of de_int) (nomark _)) (da_cons (de_ix (db_var 2 (pv 2) (.inl (by rfl))) (db_of de_int) (fun _ _ => rfl)) (da_cons (de_ix (db_var 2 (pv 2) (.inl (by rfl))) (db_of de_int) (fun _ _ => rfl)) (da_cons (de_ix (db_var 2 (pv 2) (.inl (by rfl))) (db_of de_int) (fun _ _ => rfl)) da_nil))))))
  (ds_cons (ds_if gok0 (PW.pt (dw_or (dt_cmp (or_eq hr.units) os_eq (db_var 1 (pv 1) (.inl (by rfl))) (db_of (de_tup da_nil)) (nomark _)) (dw_or1 (dt_cmp or_gt os_ord (db_of (de_ix (db_var 2 (pv 2) (.inl (by rfl))) (db_of de_int) (fun _ _ => rfl))) (db_of de_int) (nomark _)))))
  (ds_one (ds_ret gok0 rfl (de_var 3 (pv 3) rfl)))
  ds_nil)
  (ds_one (ds_ret gok0 rfl (de_type call_tuple_of cs_tuple (by rfl) T.n_tuple (by decide +kernel) (dm_bor (db_own (de_lc (own := [("_law_k", 4)]) rfl sc_l_parts.nd (di_rng1 T.n_range (by rfl) (da_cons de_int da_nil)) (blkOk_by (own := [("_law_k", 4)]) (N := ["_law_cell_here", "_law_before", "_law_row_here", "_law_drawn", "_law_k"]) (sc := defScope s_l_parts) (by decide +kernel)) (fun _ _ _ _ _ => (dg_name 4 sc_l_parts.nd rfl (by first | exact Or.inl rfl | exact Or.inr rfl))) (fun _ _ _ _ _ => dt_nil) (fun _ _ _ _ _ => (de_ifx (dt_cmp (or_eq hr.units) os_eq (db_var 4 (pv 4) (.inl (by rfl))) (db_of (de_ix (db_var 2 (pv 2) (.inl (by rfl))) (db_of de_int) (fun _ _ => rfl))) (nomark _)) (de_ix (db_var 3 (pv 3) (.inl (by rfl))) (db_var 4 (pv 4) (.inl (by rfl))) (fun _ _ => rfl)) (de_ix (db_var 1 (pv 1) (.inl (by rfl))) (db_var 4 (pv 4) (.inl (by rfl))) (fun _ _ => rfl)))))) dm_nil)))))))
theorem ok_l_line (T : Txt w K mg) : FnOk P w K mg base (L2.CX P w) 2 T.f_l_line T.fd_l_line ["_law_cell_here", "_law_index"] (spD K T.cm [false, false] false F_l_line)   := dok (G' := []) (k := 1) T.F_l_line sc_l_line rfl (by decide) fun cdv A outer s H E hr =>
  (ds_cons (ds_set 2 gok0 sc_l_line.nd rfl (by first | exact Or.inl rfl | exact Or.inr rfl) (de_callV (ok_l_row T) (takes_of rfl rfl rfl rfl) (hr.mono (by decide)) (by rfl) T.g_l_row T.F_l_row.kp T.b_l_row (dm_val (de_var 0 (pv 0) rfl) (dm_val (de_pub (de_lst (da_cons de_int (da_cons de_int (da_cons de_int (da_cons de_int (da_cons de_int (da_cons de_int (da_cons de_int (da_cons de_int (da_cons de_int (da_cons de_int (da_cons de_int (da_cons de_int da_nil)))))))))))))) dm_nil))))
  (ds_cons (ds_set 3 gok0 sc_l_line.nd rfl (by first | exact Or.inl rfl | exact Or.inr rfl) (de_strL (by decide +kernel)))
  (ds_cons (ds_set 4 gok0 sc_l_line.nd rfl (by first | exact Or.inl rfl | exact Or.inr rfl) de_int)
  (ds_cons (ds_set 5 gok0 sc_l_line.nd rfl (by first | exact Or.inl rfl | exact Or.inr rfl) de_int)
  (ds_cons (ds_for gok0 (passes_of rfl) rfl (di_rng1 T.n_range (by rfl) (da_cons (de_op or_add os_add (db_of (de_ix (db_var 2 (pv 2) (.inl (by rfl))) (db_of de_int) (fun _ _ => rfl))) (db_of de_int)) da_nil)) (dg_name 6 sc_l_line.nd rfl (by first | exact Or.inl rfl | exact Or.inr rfl))
  (ds_cons (ds_if gok0 (dt_cmp or_gt os_ord (db_var 6 (pv 6) (.inl (by rfl))) (db_of de_int) (nomark _))
  (ds_one (ds_set 3 gok0 sc_l_line.nd rfl (by first | exact Or.inl rfl | exact Or.inr rfl) (de_op or_add os_add (db_var 3 (pv 3) (.inl (by rfl))) (db_of (de_ix (db_own (de_lst (da_cons (de_strL (by decide +kernel)) (da_cons (de_strL (by decide +kernel)) (da_cons (de_strL (by decide +kernel)) da_nil))))) (db_of (de_ix (db_var 2 (pv 2) (.inl (by rfl))) (db_of (de_op or_mulX os_mulX (db_of de_int) (db_var 6 (pv 6) (.inl (by rfl))))) (fun _ _ => rfl))) (fun _ _ => rfl))))))
  ds_nil)
  (ds_cons (ds_set 7 gok0 sc_l_line.nd rfl (by first | exact Or.inl rfl | exact Or.inr rfl) (de_ix (db_own (de_lst (da_cons (de_strL (by decide +kernel)) (da_cons (de_strL (by decide +kernel)) (da_cons (de_strL (by decide +kernel)) (da_cons (de_strL (by decide +kernel)) da_nil)))))) (db_of (de_ix (db_var 2 (pv 2) (.inl (by rfl))) (db_of (de_op or_add os_add (db_of (de_op or_mulX os_mulX (db_of de_int) (db_var 6 (pv 6) (.inl (by rfl))))) (db_of de_int))) (fun _ _ => rfl))) (fun _ _ => rfl)))
  (ds_cons (ds_set 3 gok0 sc_l_line.nd rfl (by first | exact Or.inl rfl | exact Or.inr rfl) (de_op or_add os_add (db_var 3 (pv 3) (.inl (by rfl))) (db_var 7 (pv 7) (.inl (by rfl)))))
  (ds_cons (ds_set 5 gok0 sc_l_line.nd rfl (by first | exact Or.inl rfl | exact Or.inr rfl) (de_op or_add os_add (db_var 5 (pv 5) (.inl (by rfl))) (db_of (de_type cr_int cs_int (by rfl) T.n_int (by decide +kernel) (dm_bor (db_of (de_cmp (or_ne hr.units) os_ne (db_var 7 (pv 7) (.inl (by rfl))) (db_of (de_strL (by decide +kernel))) (nomark _))) dm_nil)))))
  (ds_one (ds_if gok0 (dt_cmp or_gt os_ord (db_of (de_ix (db_var 2 (pv 2) (.inl (by rfl))) (db_of (de_op or_add os_add (db_of (de_op or_mulX os_mulX (db_of de_int) (db_var 6 (pv 6) (.inl (by rfl))))) (db_of de_int))) (fun _ _ => rfl))) (db_of de_int) (nomark _))
  (ds_cons (ds_set 3 gok0 sc_l_line.nd rfl (by first | exact Or.inl rfl | exact Or.inr rfl) (de_op or_add os_add (db_var 3 (pv 3) (.inl (by rfl))) (db_of (de_ix (db_own (de_lst (da_cons (de_strL (by decide +kernel)) (da_cons (de_strL (by decide +kernel)) da_nil)))) (db_of (de_op op_sub os_sub (db_of (de_ix (db_var 2 (pv 2) (.inl (by rfl))) (db_of (de_op or_add os_add (db_of (de_op or_mulX os_mulX (db_of de_int) (db_var 6 (pv 6) (.inl (by rfl))))) (db_of de_int))) (fun _ _ => rfl))) (db_of de_int))) (fun _ _ => rfl)))))
  (ds_one (ds_set 4 gok0 sc_l_line.nd rfl (by first | exact Or.inl rfl | exact Or.inr rfl) (de_op or_add os_add (db_var 4 (pv 4) (.inl (by rfl))) (db_of de_int)))))
  ds_nil)))))))
  (ds_cons (ds_set 8 gok0 sc_l_line.nd rfl (by first | exact Or.inl rfl | exact Or.inr rfl) (de_ix (db_own (de_lst (da_cons (de_strL (by decide +kernel)) (da_cons (de_strL (by decide +kernel)) (da_cons (de_strL (by decide +kernel)) (da_cons (de_strL (by decide +kernel)) (da_cons (de_strL (by decide +kernel)) (da_cons (de_strL (by decide +kernel)) da_nil)))))))) (db_of (de_ix (db_var 2 (pv 2) (.inl (by rfl))) (db_of de_int) (fun _ _ => rfl))) (fun _ _ => rfl)))
  (ds_cons (ds_set 3 gok0 sc_l_line.nd rfl (by first | exact Or.inl rfl | exact Or.inr rfl) (de_op or_add os_add (db_of (de_op or_add os_add (db_of (de_op or_add os_add (db_of (de_op or_add os_add (db_var 3 (pv 3) (.inl (by rfl))) (db_of (de_strL (by decide +kernel))))) (db_var 8 (pv 8) (.inl (by rfl))))) (db_of (de_strL (by decide +kernel))))) (db_of (de_ix (db_own (de_lst (da_cons (de_strL (by decide +kernel)) (da_cons (de_strL (by decide +kernel)) (da_cons (de_strL (by decide +kernel)) da_nil))))) (db_of (de_ix (db_var 2 (pv 2) (.inl (by rfl))) (db_of de_int) (fun _ _ => rfl))) (fun _ _ => rfl)))))
  (ds_cons (ds_if gok0 (dt_cmp (or_eq hr.units) os_eq (db_of (de_ix (db_var 2 (pv 2) (.inl (by rfl))) (db_of de_int) (fun _ _ => rfl))) (db_of de_int) (nomark _))
  (ds_one (ds_ret gok0 rfl (de_pub (de_lst (da_cons (de_op or_add os_add (db_var 3 (pv 3) (.inl (by rfl))) (db_of (de_strL (by decide +kernel)))) (da_cons (de_tup (da_cons de_bl (da_cons (de_var 4 (pv 4) rfl) (da_cons (de_var 5 (pv 5) rfl) (da_cons (de_var 1 (pv 1) rfl) da_nil))))) da_nil))))))
  ds_nil)
  (ds_one (ds_ret gok0 rfl (de_pub (de_lst (da_cons (de_var 3 (pv 3) rfl) (da_cons (de_tup (da_cons de_bl (da_cons (de_var 4 (pv 4) rfl) (da_cons (de_var 5 (pv 5) rfl) (da_cons (de_var 1 (pv 1) rfl) da_nil))))) da_nil))))))))))))))
theorem ok_l_order (T : Txt w K mg) : FnOk P w K mg base (L2.CX P w) 1 T.f_l_order T.fd_l_order ["_law_one", "_law_two"] (spD K T.cm [false, false] false F_l_order)   := dok (G' := []) (k := 0) T.F_l_order sc_l_order rfl (by decide) fun cdv A outer s H E hr =>
  (ds_cons (ds_for gok0 (passes_of rfl) rfl (di_rng1 T.n_range (by rfl) (da_cons de_int da_nil)) (dg_name 2 sc_l_order.nd rfl (by first | exact Or.inl rfl | exact Or.inr rfl))
  (ds_one (ds_if gok0 (dt_cmp (or_ne hr.units) os_ne (db_of (de_type cr_int cs_int (by rfl) T.n_int (by decide +kernel) (dm_bor (db_of (de_ix (db_var 0 (pv 0) (.inl (by rfl))) (db_var 2 (pv 2) (.inl (by rfl))) (fun _ _ => rfl))) dm_nil))) (db_of (de_type cr_int cs_int (by rfl) T.n_int (by decide +kernel) (dm_bor (db_of (de_ix (db_var 1 (pv 1) (.inl (by rfl))) (db_var 2 (pv 2) (.inl (by rfl))) (fun _ _ => rfl))) dm_nil))) (nomark _))
  (ds_one (ds_ret gok0 rfl (de_op op_sub os_sub (db_of (de_type cr_int cs_int (by rfl) T.n_int (by decide +kernel) (dm_bor (db_of (de_ix (db_var 0 (pv 0) (.inl (by rfl))) (db_var 2 (pv 2) (.inl (by rfl))) (fun _ _ => rfl))) dm_nil))) (db_of (de_type cr_int cs_int (by rfl) T.n_int (by decide +kernel) (dm_bor (db_of (de_ix (db_var 1 (pv 1) (.inl (by rfl))) (db_var 2 (pv 2) (.inl (by rfl))) (fun _ _ => rfl))) dm_nil))))))
  ds_nil)))
  (ds_one (ds_ret gok0 rfl de_int)))
theorem ok_l_fields (T : Txt w K mg) : FnOk P w K mg base (L2.CX P w) 4 T.f_l_fields T.fd_l_fields ["_law_rank", "_law_parts_here"] (spD K T.cm [false, false] false F_l_fields)   := dok (G' := []) (k := 3) T.F_l_fields sc_l_fields rfl (by decide) fun cdv A outer s H E hr =>
  (ds_cons (ds_if gok0 (PW.pt (dw_or (dt_not (dt_val (de_isO T.cm_Rank T.ic_Rank T.n_isinstance (by rfl) (by rfl) T.g_Rank (db_var 0 (pv 0) (.inl (by rfl)))))) (dw_or (dt_not (dt_val (de_isi "bool" T.n_isinstance (by rfl) (by rfl) T.n_bool (by decide +kernel) (db_of (de_fld T.cm_Rank T.cl_Rank T.na_Rank_firm (db_var 0 (pv 0) (.inl (by rfl)))))))) (dw_or1 (dt_cmp (or_ne hr.units) os_ne (db_of (de_fld T.cm_Rank T.cl_Rank T.na_Rank_firm (db_var 0 (pv 0) (.inl (by rfl))))) (db_of (de_ix (db_var 1 (pv 1) (.inl (by rfl))) (db_of de_int) (fun _ _ => rfl))) (nomark _))))))
  (ds_one (ds_ret gok0 rfl de_bl))
  ds_nil)
  (ds_cons (ds_set 2 gok0 sc_l_fields.nd rfl (by first | exact Or.inl rfl | exact Or.inr rfl) (de_pub (de_lst (da_cons (de_fld T.cm_Rank T.cl_Rank T.na_Rank_marks (db_var 0 (pv 0) (.inl (by rfl)))) (da_cons (de_fld T.cm_Rank T.cl_Rank T.na_Rank_kinds (db_var 0 (pv 0) (.inl (by rfl)))) (da_cons (de_fld T.cm_Rank T.cl_Rank T.na_Rank_index (db_var 0 (pv 0) (.inl (by rfl)))) da_nil))))))
  (ds_cons (ds_for gok0 (passes_of rfl) rfl (di_rng1 T.n_range (by rfl) (da_cons de_int da_nil)) (dg_name 3 sc_l_fields.nd rfl (by first | exact Or.inl rfl | exact Or.inr rfl))
  (ds_one (ds_if gok0 (PW.pt (dw_or (dt_not (dt_val (de_callV (ok_l_number T) (takes_of rfl rfl rfl rfl) (hr.mono (by decide)) (by rfl) T.g_l_number T.F_l_number.kp T.b_l_number (dm_val (de_ix (db_var 2 (pv 2) (.inl (by rfl))) (db_var 3 (pv 3) (.inl (by rfl))) (fun _ _ => rfl)) dm_nil)))) (dw_or1 (dt_cmp (or_ne hr.units) os_ne (db_of (de_ix (db_var 2 (pv 2) (.inl (by rfl))) (db_var 3 (pv 3) (.inl (by rfl))) (fun _ _ => rfl))) (db_of (de_ix (db_var 1 (pv 1) (.inl (by rfl))) (db_of (de_op or_add os_add (db_var 3 (pv 3) (.inl (by rfl))) (db_of de_int))) (fun _ _ => rfl))) (nomark _)))))
  (ds_one (ds_ret gok0 rfl de_bl))
  ds_nil)))
  (ds_one (ds_ret gok0 rfl (de_and (de_cmp op_isBl os_isB (db_of (de_cmp (op_niEq T.m_Rank___eq__ (okNi_Rank_eq T) (hr.mono (by decide)) T.b_Rank_eq (T.nt_Rank _ (by decide)) T.mt_Rank) (os_ni T.cm_Rank) (db_var 0 (pv 0) (.inl (by rfl))) (db_var 1 (pv 1) (.inl (by rfl))) (nomark _))) (db_of de_bl) (nomark _)) (de_one (de_cmp op_isBl os_isB (db_of (de_cmp (op_niNotEq T.m_Rank___ne__ (okNi_Rank_ne T) (hr.mono (by decide)) T.b_Rank_ne (T.nt_Rank _ (by decide)) T.mt_Rank) (os_ni T.cm_Rank) (db_var 0 (pv 0) (.inl (by rfl))) (db_var 1 (pv 1) (.inl (by rfl))) (nomark _))) (db_of de_bl) (nomark _)))))))))
theorem ok_l_compared (T : Txt w K mg) : FnOk P w K mg base (L2.CX P w) 4 T.f_l_compared T.fd_l_compared ["_law_one", "_law_two", "_law_order_here"] (spD K T.cm [false, false, false] false F_l_compared)   := dok (G' := []) (k := 3) T.F_l_compared sc_l_compared rfl (by decide) fun cdv A outer s H E hr =>
  (ds_cons (ds_set 3 gok0 sc_l_compared.nd rfl (by first | exact Or.inl rfl | exact Or.inr rfl) (de_pub (de_lst (da_cons (de_cmp (op_cmpO (op := .Eq) (fun _ _ => rfl) T.nf_Rank T.m_Rank___eq__ (ok_Rank_eq T) (hr.mono (by decide)) T.b_Rank_eq) (os_binO (rm := false) T.cm_Rank) (db_var 0 (pv 0) (.inl (by rfl))) (db_var 1 (pv 1) (.inl (by rfl))) (nomark _)) (da_cons (de_cmp (op_cmpO (op := .NotEq) (fun _ _ => rfl) T.nf_Rank T.m_Rank___ne__ (ok_Rank_ne T) (hr.mono (by decide)) T.b_Rank_ne) (os_binO (rm := false) T.cm_Rank) (db_var 0 (pv 0) (.inl (by rfl))) (db_var 1 (pv 1) (.inl (by rfl))) (nomark _)) (da_cons (de_cmp (op_cmpO (op := .Lt) (fun _ _ => rfl) T.nf_Rank T.m_Rank___lt__ (ok_Rank_lt T) (hr.mono (by decide)) T.b_Rank_lt) (os_binO (rm := false) T.cm_Rank) (db_var 0 (pv 0) (.inl (by rfl))) (db_var 1 (pv 1) (.inl (by rfl))) (nomark _)) (da_cons (de_cmp (op_cmpO (op := .LtE) (fun _ _ => rfl) T.nf_Rank T.m_Rank___le__ (ok_Rank_le T) (hr.mono (by decide)) T.b_Rank_le) (os_binO (rm := false) T.cm_Rank) (db_var 0 (pv 0) (.inl (by rfl))) (db_var 1 (pv 1) (.inl (by rfl))) (nomark _)) (da_cons (de_cmp (op_cmpO (op := .Gt) (fun _ _ => rfl) T.nf_Rank T.m_Rank___gt__ (ok_Rank_gt T) (hr.mono (by decide)) T.b_Rank_gt) (os_binO (rm := false) T.cm_Rank) (db_var 0 (pv 0) (.inl (by rfl))) (db_var 1 (pv 1) (.inl (by rfl))) (nomark _)) (da_cons (de_cmp (op_cmpO (op := .GtE) (fun _ _ => rfl) T.nf_Rank T.m_Rank___ge__ (ok_Rank_ge T) (hr.mono (by decide)) T.b_Rank_ge) (os_binO (rm := false) T.cm_Rank) (db_var 0 (pv 0) (.inl (by rfl))) (db_var 1 (pv 1) (.inl (by rfl))) (nomark _)) da_nil)))))))))
  (ds_cons (ds_set 4 gok0 sc_l_compared.nd rfl (by first | exact Or.inl rfl | exact Or.inr rfl) (de_pub (de_lst (da_cons (de_cmp (or_eq hr.units) os_eq (db_var 2 (pv 2) (.inl (by rfl))) (db_of de_int) (nomark _)) (da_cons (de_cmp (or_ne hr.units) os_ne (db_var 2 (pv 2) (.inl (by rfl))) (db_of de_int) (nomark _)) (da_cons (de_cmp or_lt os_ord (db_var 2 (pv 2) (.inl (by rfl))) (db_of de_int) (nomark _)) (da_cons (de_cmp or_le os_ord (db_var 2 (pv 2) (.inl (by rfl))) (db_of de_int) (nomark _)) (da_cons (de_cmp or_gt os_ord (db_var 2 (pv 2) (.inl (by rfl))) (db_of de_int) (nomark _)) (da_cons (de_cmp or_ge os_ord (db_var 2 (pv 2) (.inl (by rfl))) (db_of de_int) (nomark _)) da_nil)))))))))
  (ds_cons (ds_for gok0 (passes_of rfl) rfl (di_rng1 T.n_range (by rfl) (da_cons de_int da_nil)) (dg_name 5 sc_l_compared.nd rfl (by first | exact Or.inl rfl | exact Or.inr rfl))
  (ds_one (ds_if gok0 (PW.pt (dw_or (dt_not (dt_val (de_isi "bool" T.n_isinstance (by rfl) (by rfl) T.n_bool (by decide +kernel) (db_of (de_ix (db_var 3 (pv 3) (.inl (by rfl))) (db_var 5 (pv 5) (.inl (by rfl))) (fun _ _ => rfl)))))) (dw_or1 (dt_cmp (or_ne hr.units) os_ne (db_of (de_ix (db_var 3 (pv 3) (.inl (by rfl))) (db_var 5 (pv 5) (.inl (by rfl))) (fun _ _ => rfl))) (db_of (de_ix (db_var 4 (pv 4) (.inl (by rfl))) (db_var 5 (pv 5) (.inl (by rfl))) (fun _ _ => rfl))) (nomark _)))))
  (ds_one (ds_ret gok0 rfl de_bl))
  ds_nil)))
  (ds_one (ds_ret gok0 rfl de_bl)))))
theorem ok_law (T : Txt w K mg) : FnOk P w K mg base (L2.CX P w) 9 T.f_law T.fd_law ["_law_script"] (spD K T.cm [false] false F_law)   := dok (G' := []) (k := 8) T.F_law sc_law rfl (by decide) fun cdv A outer s H E hr =>
  (ds_cons (ds_setO 1 gok0 (show 1 < 10 by decide) sc_law.nd rfl (by first | exact Or.inl rfl | exact Or.inr rfl) (de_lst da_nil))
  (ds_cons (ds_set 2 gok0 sc_law.nd rfl (by first | exact Or.inl rfl | exact Or.inr rfl) (de_tup da_nil))
  (ds_cons (ds_for gok0 (passes_of rfl) rfl (di_rng1 T.n_range (by rfl) (da_cons de_int da_nil)) (dg_name 3 sc_law.nd rfl (by first | exact Or.inl rfl | exact Or.inr rfl))
  (ds_cons (ds_set 2 gok0 sc_law.nd rfl (by first | exact Or.inl rfl | exact Or.inr rfl) (de_callV (ok_l_parts T) (takes_of rfl rfl rfl rfl) (hr.mono (by decide)) (by rfl) T.g_l_parts T.F_l_parts.kp T.b_l_parts (dm_val (de_callV (ok_l_cell T) (takes_of rfl rfl rfl rfl) (hr.mono (by decide)) (by rfl) T.g_l_cell T.F_l_cell.kp T.b_l_cell (dm_val (de_var 0 (pv 0) rfl) (dm_val (de_var 3 (pv 3) rfl) dm_nil))) (dm_val (de_var 2 (pv 2) rfl) dm_nil))))
  (ds_one (ds_app 1 gok0 rfl (pv 1) (de_var 2 (pv 2) rfl)))))
  (ds_cons (ds_setLcO 4 gok0 (by decide) rfl sc_law.nd rfl rfl (sw_true rfl rfl rfl (by decide +kernel)) (own := [("_law_one", 5)]) (di_ownL 1 (pv 1) rfl) (blkOk_by (own := [("_law_one", 5)]) (N := ["_law_script", "_law_parts_here", "_law_before", "_law_k", "_law_ranks", "_law_one", "_law_many", "_law_drawn", "_law_sheet", "_law_two"]) (sc := defScope s_law) (by decide +kernel)) (fun _ _ _ _ _ => (dg_name 5 sc_law.nd rfl (by first | exact Or.inl rfl | exact Or.inr rfl))) (fun _ _ _ _ _ => dt_nil) (fun _ _ _ _ _ => (de_pub (de_make T.mk_Rank (ok_Rank_init T) takes0 (hr.mono (by decide)) (by rfl) T.g_Rank T.b_Rank_init (dm_val (de_ix (db_var 5 (pv 5) (.inl (by rfl))) (db_of de_int) (fun _ _ => rfl)) (dm_val (de_ix (db_var 5 (pv 5) (.inl (by rfl))) (db_of de_int) (fun _ _ => rfl)) (dm_val (de_ix (db_var 5 (pv 5) (.inl (by rfl))) (db_of de_int) (fun _ _ => rfl)) (dm_val (de_ix (db_var 5 (pv 5) (.inl (by rfl))) (db_of de_int) (fun _ _ => rfl)) dm_nil))))))))
  (ds_cons (ds_set 6 gok0 sc_law.nd rfl (by first | exact Or.inl rfl | exact Or.inr rfl) (de_op or_add os_add (db_of (de_op op_mod os_mod (db_of (de_type cr_int cs_int (by rfl) T.n_int (by decide +kernel) (dm_bor (db_of (de_callV (ok_l_cell T) (takes_of rfl rfl rfl rfl) (hr.mono (by decide)) (by rfl) T.g_l_cell T.F_l_cell.kp T.b_l_cell (dm_val (de_var 0 (pv 0) rfl) (dm_val de_int dm_nil)))) dm_nil))) (db_of de_int))) (db_of de_int)))
  (ds_cons (ds_setLc 7 gok0 (by decide) rfl sc_law.nd rfl rfl (sw_true rfl rfl rfl (by decide +kernel)) (own := [("_law_k", 3)]) (di_rng1 T.n_range (by rfl) (da_cons (de_var 6 (pv 6) rfl) da_nil)) (blkOk_by (own := [("_law_k", 3)]) (N := ["_law_script", "_law_parts_here", "_law_before", "_law_k", "_law_ranks", "_law_one", "_law_many", "_law_drawn", "_law_sheet", "_law_two"]) (sc := defScope s_law) (by decide +kernel)) (fun _ _ _ _ _ => (dg_name 3 sc_law.nd rfl (by first | exact Or.inl rfl | exact Or.inr rfl))) (fun _ _ _ _ _ => dt_nil) (fun _ _ _ _ _ => (de_callV (ok_l_line T) takes0 (hr.mono (by decide)) (by rfl) T.g_l_line T.F_l_line.kp T.b_l_line (dm_val (de_callV (ok_l_cell T) takes0 (hr.mono (by decide)) (by rfl) T.g_l_cell T.F_l_cell.kp T.b_l_cell (dm_val (de_var 0 (pv 0) rfl) (dm_val (de_op or_add os_add (db_of de_int) (db_var 3 (pv 3) (.inl (by rfl)))) dm_nil))) (dm_val (de_var 3 (pv 3) rfl) dm_nil)))))
  (ds_pub 7 (ds_cons (ds_set 8 gok0 sc_law.nd rfl (by first | exact Or.inl rfl | exact Or.inr rfl) (de_pub (de_make T.mk_Sheet (ok_Sheet_init T) (takes_of rfl rfl rfl rfl) (hr.mono (by decide)) (by rfl) T.g_Sheet T.b_Sheet_init (dm_val (de_pub (de_lc (own := [("_law_one", 5)]) rfl sc_law.nd (di_list (de_var 7 (pv 7) rfl)) (blkOk_by (own := [("_law_one", 5)]) (N := ["_law_script", "_law_parts_here", "_law_before", "_law_k", "_law_ranks", "_law_one", "_law_many", "_law_drawn", "_law_sheet", "_law_two"]) (sc := defScope s_law) (by decide +kernel)) (fun _ _ _ _ _ => (dg_name 5 sc_law.nd rfl (by first | exact Or.inl rfl | exact Or.inr rfl))) (fun _ _ _ _ _ => dt_nil) (fun _ _ _ _ _ => (de_ix (db_var 5 (pv 5) (.inl (by rfl))) (db_of de_int) (fun _ _ => rfl))))) dm_nil))))
  (ds_cons (ds_for gok0 (passes_of rfl) rfl (di_rng1 T.n_range (by rfl) (da_cons (de_var 6 (pv 6) rfl) da_nil)) (dg_name 3 sc_law.nd rfl (by first | exact Or.inl rfl | exact Or.inr rfl))
  (ds_cons (ds_app 1 gok0 rfl (pv 1) (de_ix (db_of (de_ix (db_var 7 (pv 7) (.inl (by rfl))) (db_var 3 (pv 3) (.inl (by rfl))) (fun _ _ => rfl))) (db_of de_int) (fun _ _ => rfl)))
  (ds_one (ds_app 4 gok0 rfl (pv 4) (de_meth (rm := false) T.cm_Sheet T.cl_Sheet T.m_Sheet_rank (ok_Sheet_rank T) (takes_of rfl rfl rfl rfl) (hr.mono (by decide)) T.b_Sheet_rank (db_var 8 (pv 8) (.inl (by rfl))) (dm_val (de_var 3 (pv 3) rfl) dm_nil))))))
  (ds_cons (ds_for gok0 (passes_of rfl) rfl (di_rng1 T.n_range (by rfl) (da_cons (de_bltn call_len cs_len (by rfl) T.n_len (by decide +kernel) (dm_bor (db_var 1 (pv 1) (.inr (.inl (by trivial)))) dm_nil)) da_nil)) (dg_name 5 sc_law.nd rfl (by first | exact Or.inl rfl | exact Or.inr rfl))
  (ds_cons (ds_if gok0 (dt_not (dt_val (de_callV (ok_l_fields T) (takes_of rfl rfl rfl rfl) (hr.mono (by decide)) (by rfl) T.g_l_fields T.F_l_fields.kp T.b_l_fields (dm_val (de_ix (db_var 4 (pv 4) (.inr (.inl (by trivial)))) (db_var 5 (pv 5) (.inl (by rfl))) (fun _ _ => rfl)) (dm_val (de_ix (db_var 1 (pv 1) (.inr (.inl (by trivial)))) (db_var 5 (pv 5) (.inl (by rfl))) (fun _ _ => rfl)) dm_nil)))))
  (ds_one (ds_ret gok0 rfl de_bl))
  ds_nil)
  (ds_one (ds_for gok0 (passes_of rfl) rfl (di_rng1 T.n_range (by rfl) (da_cons (de_bltn call_len cs_len (by rfl) T.n_len (by decide +kernel) (dm_bor (db_var 1 (pv 1) (.inr (.inl (by trivial)))) dm_nil)) da_nil)) (dg_name 9 sc_law.nd rfl (by first | exact Or.inl rfl | exact Or.inr rfl))
  (ds_one (ds_if gok0 (dt_not (dt_val (de_callV (ok_l_compared T) (takes_of rfl rfl rfl rfl) (hr.mono (by decide)) (by rfl) T.g_l_compared T.F_l_compared.kp T.b_l_compared (dm_val (de_ix (db_var 4 (pv 4) (.inr (.inl (by trivial)))) (db_var 5 (pv 5) (.inl (by rfl))) (fun _ _ => rfl)) (dm_val (de_ix (db_var 4 (pv 4) (.inr (.inl (by trivial)))) (db_var 9 (pv 9) (.inl (by rfl))) (fun _ _ => rfl)) (dm_val (de_callV (ok_l_order T) (takes_of rfl rfl rfl rfl) (hr.mono (by decide)) (by rfl) T.g_l_order T.F_l_order.kp T.b_l_order (dm_val (de_ix (db_var 1 (pv 1) (.inr (.inl (by trivial)))) (db_var 5 (pv 5) (.inl (by rfl))) (fun _ _ => rfl)) (dm_val (de_ix (db_var 1 (pv 1) (.inr (.inl (by trivial)))) (db_var 9 (pv 9) (.inl (by rfl))) (fun _ _ => rfl)) dm_nil))) dm_nil))))))
  (ds_one (ds_ret gok0 rfl de_bl))
  ds_nil))))))
  (ds_one (ds_ret gok0 rfl de_bl))))) (.inl rfl))))))))
end
end Lk
end S_P_walk
section S_P_end
set_option Elab.async false
set_option linter.all false
set_option maxRecDepth 100000
set_option maxHeartbeats 4000000
namespace Lk
open PySem L2 Dx PySem.Spec PyProof.Rows
theorem txt_mk {w : World} {K : PySem.W.Frag} {h : Heap} {mg : Str → Option Value} (X : K.In h) (G : h.Ns mainGlobals mg)
    {f0 : Addr} {oc0 kV0 dc0 pm0 cd0 ct0 : Value} {od0 an0 : Option Addr} {sl0 : Array (Option Value)}
    {f1 : Addr} {oc1 kV1 dc1 pm1 cd1 ct1 : Value} {od1 an1 : Option Addr} {sl1 : Array (Option Value)}
    {f2 : Addr} {oc2 kV2 dc2 pm2 cd2 ct2 : Value} {od2 an2 : Option Addr} {sl2 : Array (Option Value)}
    {f3 : Addr} {oc3 kV3 dc3 pm3 cd3 ct3 : Value} {od3 an3 : Option Addr} {sl3 : Array (Option Value)}
    {f4 : Addr} {oc4 kV4 dc4 pm4 cd4 ct4 : Value} {od4 an4 : Option Addr} {sl4 : Array (Option Value)}
    {f5 : Addr} {oc5 kV5 dc5 pm5 cd5 ct5 : Value} {od5 an5 : Option Addr} {sl5 : Array (Option Value)}
    {f6 : Addr} {oc6 kV6 dc6 pm6 cd6 ct6 : Value} {od6 an6 : Option Addr} {sl6 : Array (Option Value)}
    {f7 : Addr} {oc7 kV7 dc7 pm7 cd7 ct7 : Value} {od7 an7 : Option Addr} {sl7 : Array (Option Value)}
    {f8 : Addr} {oc8 kV8 dc8 pm8 cd8 ct8 : Value} {od8 an8 : Option Addr} {sl8 : Array (Option Value)}
    {f9 : Addr} {oc9 kV9 dc9 pm9 cd9 ct9 : Value} {od9 an9 : Option Addr} {sl9 : Array (Option Value)}
    {f10 : Addr} {oc10 kV10 dc10 pm10 cd10 ct10 : Value} {od10 an10 : Option Addr} {sl10 : Array (Option Value)}
    {f11 : Addr} {oc11 kV11 dc11 pm11 cd11 ct11 : Value} {od11 an11 : Option Addr} {sl11 : Array (Option Value)}
    {f12 : Addr} {oc12 kV12 dc12 pm12 cd12 ct12 : Value} {od12 an12 : Option Addr} {sl12 : Array (Option Value)}
    {f13 : Addr} {oc13 kV13 dc13 pm13 cd13 ct13 : Value} {od13 an13 : Option Addr} {sl13 : Array (Option Value)}
    {f14 : Addr} {oc14 kV14 dc14 pm14 cd14 ct14 : Value} {od14 an14 : Option Addr} {sl14 : Array (Option Value)}
    {f15 : Addr} {oc15 kV15 dc15 pm15 cd15 ct15 : Value} {od15 an15 : Option Addr} {sl15 : Array (Option Value)}
    {f16 : Addr} {oc16 kV16 dc16 pm16 cd16 ct16 : Value} {od16 an16 : Option Addr} {sl16 : Array (Option Value)}
    {f17 : Addr} {oc17 kV17 dc17 pm17 cd17 ct17 : Value} {od17 an17 : Option Addr} {sl17 : Array (Option Value)}
    {f18 : Addr} {oc18 kV18 dc18 pm18 cd18 ct18 : Value} {od18 an18 : Option Addr} {sl18 : Array (Option Value)}
    {f19 : Addr} {oc19 kV19 dc19 pm19 cd19 ct19 : Value} {od19 an19 : Option Addr} {sl19 : Array (Option Value)}
    {f20 : Addr} {oc20 kV20 dc20 pm20 cd20 ct20 : Value} {od20 an20 : Option Addr} {sl20 : Array (Option Value)}
    {f21 : Addr} {oc21 kV21 dc21 pm21 cd21 ct21 : Value} {od21 an21 : Option Addr} {sl21 : Array (Option Value)}
    {f22 : Addr} {oc22 kV22 dc22 pm22 cd22 ct22 : Value} {od22 an22 : Option Addr} {sl22 : Array (Option Value)}
    {f23 : Addr} {oc23 kV23 dc23 pm23 cd23 ct23 : Value} {od23 an23 : Option Addr} {sl23 : Array (Option Value)}
    {f24 : Addr} {oc24 kV24 dc24 pm24 cd24 ct24 : Value} {od24 an24 : Option Addr} {sl24 : Array (Option Value)}
    {f25 : Addr} {oc25 kV25 dc25 pm25 cd25 ct25 : Value} {od25 an25 : Option Addr} {sl25 : Array (Option Value)}
    {f26 : Addr} {oc26 kV26 dc26 pm26 cd26 ct26 : Value} {od26 an26 : Option Addr} {sl26 : Array (Option Value)}
    {f27 : Addr} {oc27 kV27 dc27 pm27 cd27 ct27 : Value} {od27 an27 : Option Addr} {sl27 : Array (Option Value)}
    {f28 : Addr} {oc28 kV28 dc28 pm28 cd28 ct28 : Value} {od28 an28 : Option Addr} {sl28 : Array (Option Value)}
    {f29 : Addr} {oc29 kV29 dc29 pm29 cd29 ct29 : Value} {od29 an29 : Option Addr} {sl29 : Array (Option Value)}
    {f30 : Addr} {oc30 kV30 dc30 pm30 cd30 ct30 : Value} {od30 an30 : Option Addr} {sl30 : Array (Option Value)}
    {t_DIGITS : Tok}
    {t_LETTERS : Tok}
    {t_MOST_ROWS : Tok}
    {t_MOST_TESTS : Tok}
    {kA_LINKS_0 : Addr} {kn_LINKS_0 : Nat}
    {kh_LINKS_0 : Int} {kt_LINKS_0 : Tok}
    {kv_LINKS_0 : Tok}
    {kh_LINKS_1 : Int} {kt_LINKS_1 : Tok}
    {kv_LINKS_1 : Tok}
    {kA_RANGES_0 : Addr} {kn_RANGES_0 : Nat}
    {kh_RANGES_0 : Int} {kt_RANGES_0 : Tok}
    {kt_RANGES_1_0 : Tok}
    {kt_RANGES_1_1 : Tok}
    {kA_RANGES_1 : Addr} {kod_RANGES_1 : Option Addr} {kn_RANGES_1 : Nat} {ksl_RANGES_1 : Array (Option Value)}
    {kh_RANGES_1 : Int} {kt_RANGES_1 : Tok}
    {kt_RANGES_2_0 : Tok}
    {kt_RANGES_2_1 : Tok}
    {kA_RANGES_2 : Addr} {kod_RANGES_2 : Option Addr} {kn_RANGES_2 : Nat} {ksl_RANGES_2 : Array (Option Value)}
    {kh_RANGES_2 : Int} {kt_RANGES_2 : Tok}
    {kt_RANGES_3_0 : Tok}
    {kt_RANGES_3_1 : Tok}
    {kA_RANGES_3 : Addr} {kod_RANGES_3 : Option Addr} {kn_RANGES_3 : Nat} {ksl_RANGES_3 : Array (Option Value)}
    {kh_RANGES_3 : Int} {kt_RANGES_3 : Tok}
    {kt_RANGES_4_0 : Tok}
    {kt_RANGES_4_1 : Tok}
    {kA_RANGES_4 : Addr} {kod_RANGES_4 : Option Addr} {kn_RANGES_4 : Nat} {ksl_RANGES_4 : Array (Option Value)}
    {kh_RANGES_4 : Int} {kt_RANGES_4 : Tok}
    {kt_RANGES_5_0 : Tok}
    {kt_RANGES_5_1 : Tok}
    {kA_RANGES_5 : Addr} {kod_RANGES_5 : Option Addr} {kn_RANGES_5 : Nat} {ksl_RANGES_5 : Array (Option Value)}
    {kh_RANGES_5 : Int} {kt_RANGES_5 : Tok}
    {kt_RANGES_6_0 : Tok}
    {kt_RANGES_6_1 : Tok}
    {kA_RANGES_6 : Addr} {kod_RANGES_6 : Option Addr} {kn_RANGES_6 : Nat} {ksl_RANGES_6 : Array (Option Value)}
    {A_BadPattern : Addr}
    {A_BadValue : Addr}
    {A_NoSuchNumber : Addr}
    {A_TooLarge : Addr}
    {nm_BadPattern qq_BadPattern : Str} {N_BadPattern fI_BadPattern : Addr} {bs_BadPattern bm_BadPattern : List Value} {sn_BadPattern : List Str} {sb_BadPattern : List Value} {ab_BadPattern : Bool} {co_BadPattern : Option Bool} {dd_BadPattern od_BadPattern an_BadPattern : Option Addr} {m0_BadPattern m1_BadPattern m2_BadPattern m3_BadPattern m5_BadPattern : Option Value} {oc_BadPattern kV_BadPattern dc_BadPattern pm_BadPattern cd_BadPattern ct_BadPattern : Value} {sl_BadPattern : Array (Option Value)}
    {nm_BadValue qq_BadValue : Str} {N_BadValue fI_BadValue : Addr} {bs_BadValue bm_BadValue : List Value} {sn_BadValue : List Str} {sb_BadValue : List Value} {ab_BadValue : Bool} {co_BadValue : Option Bool} {dd_BadValue od_BadValue an_BadValue : Option Addr} {m0_BadValue m1_BadValue m2_BadValue m3_BadValue m5_BadValue : Option Value} {oc_BadValue kV_BadValue dc_BadValue pm_BadValue cd_BadValue ct_BadValue : Value} {sl_BadValue : Array (Option Value)}
    {nm_NoSuchNumber qq_NoSuchNumber : Str} {N_NoSuchNumber fI_NoSuchNumber : Addr} {bs_NoSuchNumber bm_NoSuchNumber : List Value} {sn_NoSuchNumber : List Str} {sb_NoSuchNumber : List Value} {ab_NoSuchNumber : Bool} {co_NoSuchNumber : Option Bool} {dd_NoSuchNumber od_NoSuchNumber an_NoSuchNumber : Option Addr} {m0_NoSuchNumber m1_NoSuchNumber m2_NoSuchNumber m3_NoSuchNumber m5_NoSuchNumber : Option Value} {oc_NoSuchNumber kV_NoSuchNumber dc_NoSuchNumber pm_NoSuchNumber cd_NoSuchNumber ct_NoSuchNumber : Value} {sl_NoSuchNumber : Array (Option Value)}
    {nm_TooLarge qq_TooLarge : Str} {N_TooLarge fI_TooLarge : Addr} {bs_TooLarge bm_TooLarge : List Value} {sn_TooLarge : List Str} {sb_TooLarge : List Value} {ab_TooLarge : Bool} {co_TooLarge : Option Bool} {dd_TooLarge od_TooLarge an_TooLarge : Option Addr} {m0_TooLarge m1_TooLarge m2_TooLarge m3_TooLarge m5_TooLarge : Option Value} {oc_TooLarge kV_TooLarge dc_TooLarge pm_TooLarge cd_TooLarge ct_TooLarge : Value} {sl_TooLarge : Array (Option Value)}
    {A_Pattern : Addr}
    {A_Points : Addr}
    {A_Rank : Addr}
    {A_Sheet : Addr}
    {pp_Pattern_asked : Addr} {pq_Pattern_asked : List Value}
    {pp_Pattern_named : Addr} {pq_Pattern_named : List Value}
    (a0 : PySem.W.nsIn K mainGlobals "is_name" = some (some (.ref f0)))
    (l0 : K.lookup f0 = some ⟨oc0, od0, .func (PySem.W.fnOf "is_name" "is_name" (defArgs s_is_name) (defBody s_is_name) (defScope s_is_name) .none kV0 dc0 pm0 an0 cd0 ct0), sl0⟩) (c0 : PySem.W.codeIn K cd0 "is_name" = true) (k0 : PySem.W.keepIn K (.ref f0) = true)
    (a1 : PySem.W.nsIn K mainGlobals "digits_value" = some (some (.ref f1)))
    (l1 : K.lookup f1 = some ⟨oc1, od1, .func (PySem.W.fnOf "digits_value" "digits_value" (defArgs s_digits_value) (defBody s_digits_value) (defScope s_digits_value) .none kV1 dc1 pm1 an1 cd1 ct1), sl1⟩) (c1 : PySem.W.codeIn K cd1 "digits_value" = true) (k1 : PySem.W.keepIn K (.ref f1) = true)
    (a2 : PySem.W.nsIn K mainGlobals "read_test" = some (some (.ref f2)))
    (l2 : K.lookup f2 = some ⟨oc2, od2, .func (PySem.W.fnOf "read_test" "read_test" (defArgs s_read_test) (defBody s_read_test) (defScope s_read_test) .none kV2 dc2 pm2 an2 cd2 ct2), sl2⟩) (c2 : PySem.W.codeIn K cd2 "read_test" = true) (k2 : PySem.W.keepIn K (.ref f2) = true)
    (a3 : PySem.W.nsIn K mainGlobals "read_pattern" = some (some (.ref f3)))
    (l3 : K.lookup f3 = some ⟨oc3, od3, .func (PySem.W.fnOf "read_pattern" "read_pattern" (defArgs s_read_pattern) (defBody s_read_pattern) (defScope s_read_pattern) .none kV3 dc3 pm3 an3 cd3 ct3), sl3⟩) (c3 : PySem.W.codeIn K cd3 "read_pattern" = true) (k3 : PySem.W.keepIn K (.ref f3) = true)
    (l4 : K.lookup f4 = some ⟨oc4, od4, .func (PySem.W.fnOf "__init__" "Points.__init__" (defArgs s_Points_init) (defBody s_Points_init) (defScope s_Points_init) .none kV4 dc4 pm4 an4 cd4 ct4), sl4⟩) (c4 : PySem.W.codeIn K cd4 "Points.__init__" = true) (k4 : PySem.W.keepIn K (.ref f4) = true)
    (l5 : K.lookup f5 = some ⟨oc5, od5, .func (PySem.W.fnOf "__init__" "Pattern.__init__" (defArgs s_Pattern_init) (defBody s_Pattern_init) (defScope s_Pattern_init) .none kV5 dc5 pm5 an5 cd5 ct5), sl5⟩) (c5 : PySem.W.codeIn K cd5 "Pattern.__init__" = true) (k5 : PySem.W.keepIn K (.ref f5) = true)
    (l6 : K.lookup f6 = some ⟨oc6, od6, .func (PySem.W.fnOf "asked" "Pattern.asked" (defArgs s_Pattern_asked) (defBody s_Pattern_asked) (defScope s_Pattern_asked) .none kV6 dc6 pm6 an6 cd6 ct6), sl6⟩) (c6 : PySem.W.codeIn K cd6 "Pattern.asked" = true) (k6 : PySem.W.keepIn K (.ref f6) = true)
    (l7 : K.lookup f7 = some ⟨oc7, od7, .func (PySem.W.fnOf "named" "Pattern.named" (defArgs s_Pattern_named) (defBody s_Pattern_named) (defScope s_Pattern_named) .none kV7 dc7 pm7 an7 cd7 ct7), sl7⟩) (c7 : PySem.W.codeIn K cd7 "Pattern.named" = true) (k7 : PySem.W.keepIn K (.ref f7) = true)
    (l8 : K.lookup f8 = some ⟨oc8, od8, .func (PySem.W.fnOf "__init__" "Rank.__init__" (defArgs s_Rank_init) (defBody s_Rank_init) (defScope s_Rank_init) .none kV8 dc8 pm8 an8 cd8 ct8), sl8⟩) (c8 : PySem.W.codeIn K cd8 "Rank.__init__" = true) (k8 : PySem.W.keepIn K (.ref f8) = true)
    (l9 : K.lookup f9 = some ⟨oc9, od9, .func (PySem.W.fnOf "parts" "Rank.parts" (defArgs s_Rank_parts) (defBody s_Rank_parts) (defScope s_Rank_parts) .none kV9 dc9 pm9 an9 cd9 ct9), sl9⟩) (c9 : PySem.W.codeIn K cd9 "Rank.parts" = true) (k9 : PySem.W.keepIn K (.ref f9) = true)
    (l10 : K.lookup f10 = some ⟨oc10, od10, .func (PySem.W.fnOf "__eq__" "Rank.__eq__" (defArgs s_Rank_eq) (defBody s_Rank_eq) (defScope s_Rank_eq) .none kV10 dc10 pm10 an10 cd10 ct10), sl10⟩) (c10 : PySem.W.codeIn K cd10 "Rank.__eq__" = true) (k10 : PySem.W.keepIn K (.ref f10) = true)
    (l11 : K.lookup f11 = some ⟨oc11, od11, .func (PySem.W.fnOf "__ne__" "Rank.__ne__" (defArgs s_Rank_ne) (defBody s_Rank_ne) (defScope s_Rank_ne) .none kV11 dc11 pm11 an11 cd11 ct11), sl11⟩) (c11 : PySem.W.codeIn K cd11 "Rank.__ne__" = true) (k11 : PySem.W.keepIn K (.ref f11) = true)
    (l12 : K.lookup f12 = some ⟨oc12, od12, .func (PySem.W.fnOf "__lt__" "Rank.__lt__" (defArgs s_Rank_lt) (defBody s_Rank_lt) (defScope s_Rank_lt) .none kV12 dc12 pm12 an12 cd12 ct12), sl12⟩) (c12 : PySem.W.codeIn K cd12 "Rank.__lt__" = true) (k12 : PySem.W.keepIn K (.ref f12) = true)
    (l13 : K.lookup f13 = some ⟨oc13, od13, .func (PySem.W.fnOf "__le__" "Rank.__le__" (defArgs s_Rank_le) (defBody s_Rank_le) (defScope s_Rank_le) .none kV13 dc13 pm13 an13 cd13 ct13), sl13⟩) (c13 : PySem.W.codeIn K cd13 "Rank.__le__" = true) (k13 : PySem.W.keepIn K (.ref f13) = true)
    (l14 : K.lookup f14 = some ⟨oc14, od14, .func (PySem.W.fnOf "__gt__" "Rank.__gt__" (defArgs s_Rank_gt) (defBody s_Rank_gt) (defScope s_Rank_gt) .none kV14 dc14 pm14 an14 cd14 ct14), sl14⟩) (c14 : PySem.W.codeIn K cd14 "Rank.__gt__" = true) (k14 : PySem.W.keepIn K (.ref f14) = true)
    (l15 : K.lookup f15 = some ⟨oc15, od15, .func (PySem.W.fnOf "__ge__" "Rank.__ge__" (defArgs s_Rank_ge) (defBody s_Rank_ge) (defScope s_Rank_ge) .none kV15 dc15 pm15 an15 cd15 ct15), sl15⟩) (c15 : PySem.W.codeIn K cd15 "Rank.__ge__" = true) (k15 : PySem.W.keepIn K (.ref f15) = true)
    (a16 : PySem.W.nsIn K mainGlobals "read_value" = some (some (.ref f16)))
    (l16 : K.lookup f16 = some ⟨oc16, od16, .func (PySem.W.fnOf "read_value" "read_value" (defArgs s_read_value) (defBody s_read_value) (defScope s_read_value) .none kV16 dc16 pm16 an16 cd16 ct16), sl16⟩) (c16 : PySem.W.codeIn K cd16 "read_value" = true) (k16 : PySem.W.keepIn K (.ref f16) = true)
    (a17 : PySem.W.nsIn K mainGlobals "read_row" = some (some (.ref f17)))
    (l17 : K.lookup f17 = some ⟨oc17, od17, .func (PySem.W.fnOf "read_row" "read_row" (defArgs s_read_row) (defBody s_read_row) (defScope s_read_row) .none kV17 dc17 pm17 an17 cd17 ct17), sl17⟩) (c17 : PySem.W.codeIn K cd17 "read_row" = true) (k17 : PySem.W.keepIn K (.ref f17) = true)
    (a18 : PySem.W.nsIn K mainGlobals "descending" = some (some (.ref f18)))
    (l18 : K.lookup f18 = some ⟨oc18, od18, .func (PySem.W.fnOf "descending" "descending" (defArgs s_descending) (defBody s_descending) (defScope s_descending) .none kV18 dc18 pm18 an18 cd18 ct18), sl18⟩) (c18 : PySem.W.codeIn K cd18 "descending" = true) (k18 : PySem.W.keepIn K (.ref f18) = true)
    (l19 : K.lookup f19 = some ⟨oc19, od19, .func (PySem.W.fnOf "row" "Sheet.row" (defArgs s_Sheet_row) (defBody s_Sheet_row) (defScope s_Sheet_row) .none kV19 dc19 pm19 an19 cd19 ct19), sl19⟩) (c19 : PySem.W.codeIn K cd19 "Sheet.row" = true) (k19 : PySem.W.keepIn K (.ref f19) = true)
    (l20 : K.lookup f20 = some ⟨oc20, od20, .func (PySem.W.fnOf "rank" "Sheet.rank" (defArgs s_Sheet_rank) (defBody s_Sheet_rank) (defScope s_Sheet_rank) .none kV20 dc20 pm20 an20 cd20 ct20), sl20⟩) (c20 : PySem.W.codeIn K cd20 "Sheet.rank" = true) (k20 : PySem.W.keepIn K (.ref f20) = true)
    (l21 : K.lookup f21 = some ⟨oc21, od21, .func (PySem.W.fnOf "__init__" "Sheet.__init__" (defArgs s_Sheet_init) (defBody s_Sheet_init) (defScope s_Sheet_init) .none kV21 dc21 pm21 an21 cd21 ct21), sl21⟩) (c21 : PySem.W.codeIn K cd21 "Sheet.__init__" = true) (k21 : PySem.W.keepIn K (.ref f21) = true)
    (a22 : PySem.W.nsIn K mainGlobals "_law_cell" = some (some (.ref f22)))
    (l22 : K.lookup f22 = some ⟨oc22, od22, .func (PySem.W.fnOf "_law_cell" "_law_cell" (defArgs s_l_cell) (defBody s_l_cell) (defScope s_l_cell) .none kV22 dc22 pm22 an22 cd22 ct22), sl22⟩) (c22 : PySem.W.codeIn K cd22 "_law_cell" = true) (k22 : PySem.W.keepIn K (.ref f22) = true)
    (a23 : PySem.W.nsIn K mainGlobals "_law_row" = some (some (.ref f23)))
    (l23 : K.lookup f23 = some ⟨oc23, od23, .func (PySem.W.fnOf "_law_row" "_law_row" (defArgs s_l_row) (defBody s_l_row) (defScope s_l_row) .none kV23 dc23 pm23 an23 cd23 ct23), sl23⟩) (c23 : PySem.W.codeIn K cd23 "_law_row" = true) (k23 : PySem.W.keepIn K (.ref f23) = true)
    (a24 : PySem.W.nsIn K mainGlobals "_law_number" = some (some (.ref f24)))
    (l24 : K.lookup f24 = some ⟨oc24, od24, .func (PySem.W.fnOf "_law_number" "_law_number" (defArgs s_l_number) (defBody s_l_number) (defScope s_l_number) .none kV24 dc24 pm24 an24 cd24 ct24), sl24⟩) (c24 : PySem.W.codeIn K cd24 "_law_number" = true) (k24 : PySem.W.keepIn K (.ref f24) = true)
    (a25 : PySem.W.nsIn K mainGlobals "_law_parts" = some (some (.ref f25)))
    (l25 : K.lookup f25 = some ⟨oc25, od25, .func (PySem.W.fnOf "_law_parts" "_law_parts" (defArgs s_l_parts) (defBody s_l_parts) (defScope s_l_parts) .none kV25 dc25 pm25 an25 cd25 ct25), sl25⟩) (c25 : PySem.W.codeIn K cd25 "_law_parts" = true) (k25 : PySem.W.keepIn K (.ref f25) = true)
    (a26 : PySem.W.nsIn K mainGlobals "_law_line" = some (some (.ref f26)))
    (l26 : K.lookup f26 = some ⟨oc26, od26, .func (PySem.W.fnOf "_law_line" "_law_line" (defArgs s_l_line) (defBody s_l_line) (defScope s_l_line) .none kV26 dc26 pm26 an26 cd26 ct26), sl26⟩) (c26 : PySem.W.codeIn K cd26 "_law_line" = true) (k26 : PySem.W.keepIn K (.ref f26) = true)
    (a27 : PySem.W.nsIn K mainGlobals "_law_order" = some (some (.ref f27)))
    (l27 : K.lookup f27 = some ⟨oc27, od27, .func (PySem.W.fnOf "_law_order" "_law_order" (defArgs s_l_order) (defBody s_l_order) (defScope s_l_order) .none kV27 dc27 pm27 an27 cd27 ct27), sl27⟩) (c27 : PySem.W.codeIn K cd27 "_law_order" = true) (k27 : PySem.W.keepIn K (.ref f27) = true)
    (a28 : PySem.W.nsIn K mainGlobals "_law_fields" = some (some (.ref f28)))
    (l28 : K.lookup f28 = some ⟨oc28, od28, .func (PySem.W.fnOf "_law_fields" "_law_fields" (defArgs s_l_fields) (defBody s_l_fields) (defScope s_l_fields) .none kV28 dc28 pm28 an28 cd28 ct28), sl28⟩) (c28 : PySem.W.codeIn K cd28 "_law_fields" = true) (k28 : PySem.W.keepIn K (.ref f28) = true)
    (a29 : PySem.W.nsIn K mainGlobals "_law_compared" = some (some (.ref f29)))
    (l29 : K.lookup f29 = some ⟨oc29, od29, .func (PySem.W.fnOf "_law_compared" "_law_compared" (defArgs s_l_compared) (defBody s_l_compared) (defScope s_l_compared) .none kV29 dc29 pm29 an29 cd29 ct29), sl29⟩) (c29 : PySem.W.codeIn K cd29 "_law_compared" = true) (k29 : PySem.W.keepIn K (.ref f29) = true)
    (a30 : PySem.W.nsIn K mainGlobals "law" = some (some (.ref f30)))
    (l30 : K.lookup f30 = some ⟨oc30, od30, .func (PySem.W.fnOf "law" "law" (defArgs s_law) (defBody s_law) (defScope s_law) .none kV30 dc30 pm30 an30 cd30 ct30), sl30⟩) (c30 : PySem.W.codeIn K cd30 "law" = true) (k30 : PySem.W.keepIn K (.ref f30) = true)
    (z_NotImplemented : PySem.W.nsIn K mainGlobals "NotImplemented" = some none)
    (z_bool : PySem.W.nsIn K mainGlobals "bool" = some none)
    (z_enumerate : PySem.W.nsIn K mainGlobals "enumerate" = some none)
    (z_int : PySem.W.nsIn K mainGlobals "int" = some none)
    (z_isinstance : PySem.W.nsIn K mainGlobals "isinstance" = some none)
    (z_len : PySem.W.nsIn K mainGlobals "len" = some none)
    (z_list : PySem.W.nsIn K mainGlobals "list" = some none)
    (z_range : PySem.W.nsIn K mainGlobals "range" = some none)
    (z_tuple : PySem.W.nsIn K mainGlobals "tuple" = some none)
    (z_zip : PySem.W.nsIn K mainGlobals "zip" = some none)
    (y_DIGITS : PySem.W.nsIn K mainGlobals "DIGITS" = some (some (.str "0123456789" t_DIGITS)))
    (y_LETTERS : PySem.W.nsIn K mainGlobals "LETTERS" = some (some (.str "abcdefghijklmnopqrstuvwxyz" t_LETTERS)))
    (y_MOST_ROWS : PySem.W.nsIn K mainGlobals "MOST_ROWS" = some (some (.int 12 t_MOST_ROWS)))
    (y_MOST_TESTS : PySem.W.nsIn K mainGlobals "MOST_TESTS" = some (some (.int 4 t_MOST_TESTS)))
    (y_LINKS : PySem.W.nsIn K mainGlobals "LINKS" = some (some (.ref kA_LINKS_0)))
    (kl_LINKS_0 : K.lookup kA_LINKS_0 = some ⟨.type "dict", none, .dict #[⟨kh_LINKS_0, .str ">" kt_LINKS_0, .str "parent" kv_LINKS_0⟩, ⟨kh_LINKS_1, .str "+" kt_LINKS_1, .str "elder" kv_LINKS_1⟩] kn_LINKS_0, #[]⟩)
    (kk_LINKS : PySem.W.KeysLit w.params [⟨kh_LINKS_0, .str ">" kt_LINKS_0, .str "parent" kv_LINKS_0⟩, ⟨kh_LINKS_1, .str "+" kt_LINKS_1, .str "elder" kv_LINKS_1⟩])
    (km_LINKS : (kA_LINKS_0 == sysModules) = false)
    (y_RANGES : PySem.W.nsIn K mainGlobals "RANGES" = some (some (.ref kA_RANGES_0)))
    (kl_RANGES_1 : K.lookup kA_RANGES_1 = some ⟨.type "tuple", kod_RANGES_1, .seq #[.int (0) kt_RANGES_1_0, .int (2) kt_RANGES_1_1] kn_RANGES_1, ksl_RANGES_1⟩)
    (kl_RANGES_2 : K.lookup kA_RANGES_2 = some ⟨.type "tuple", kod_RANGES_2, .seq #[.int (1) kt_RANGES_2_0, .int (3) kt_RANGES_2_1] kn_RANGES_2, ksl_RANGES_2⟩)
    (kl_RANGES_3 : K.lookup kA_RANGES_3 = some ⟨.type "tuple", kod_RANGES_3, .seq #[.int (0) kt_RANGES_3_0, .int (3) kt_RANGES_3_1] kn_RANGES_3, ksl_RANGES_3⟩)
    (kl_RANGES_4 : K.lookup kA_RANGES_4 = some ⟨.type "tuple", kod_RANGES_4, .seq #[.int (0) kt_RANGES_4_0, .int (3) kt_RANGES_4_1] kn_RANGES_4, ksl_RANGES_4⟩)
    (kl_RANGES_5 : K.lookup kA_RANGES_5 = some ⟨.type "tuple", kod_RANGES_5, .seq #[.int (0) kt_RANGES_5_0, .int (9) kt_RANGES_5_1] kn_RANGES_5, ksl_RANGES_5⟩)
    (kl_RANGES_6 : K.lookup kA_RANGES_6 = some ⟨.type "tuple", kod_RANGES_6, .seq #[.int (0) kt_RANGES_6_0, .int (9) kt_RANGES_6_1] kn_RANGES_6, ksl_RANGES_6⟩)
    (kl_RANGES_0 : K.lookup kA_RANGES_0 = some ⟨.type "dict", none, .dict #[⟨kh_RANGES_0, .str "face" kt_RANGES_0, .ref kA_RANGES_1⟩, ⟨kh_RANGES_1, .str "size" kt_RANGES_1, .ref kA_RANGES_2⟩, ⟨kh_RANGES_2, .str "wide" kt_RANGES_2, .ref kA_RANGES_3⟩, ⟨kh_RANGES_3, .str "drop" kt_RANGES_3, .ref kA_RANGES_4⟩, ⟨kh_RANGES_4, .str "indent" kt_RANGES_4, .ref kA_RANGES_5⟩, ⟨kh_RANGES_5, .str "before" kt_RANGES_5, .ref kA_RANGES_6⟩] kn_RANGES_0, #[]⟩)
    (kk_RANGES : PySem.W.KeysLit w.params [⟨kh_RANGES_0, .str "face" kt_RANGES_0, .ref kA_RANGES_1⟩, ⟨kh_RANGES_1, .str "size" kt_RANGES_1, .ref kA_RANGES_2⟩, ⟨kh_RANGES_2, .str "wide" kt_RANGES_2, .ref kA_RANGES_3⟩, ⟨kh_RANGES_3, .str "drop" kt_RANGES_3, .ref kA_RANGES_4⟩, ⟨kh_RANGES_4, .str "indent" kt_RANGES_4, .ref kA_RANGES_5⟩, ⟨kh_RANGES_5, .str "before" kt_RANGES_5, .ref kA_RANGES_6⟩])
    (km_RANGES : (kA_RANGES_0 == sysModules) = false)
    (x_BadPattern : PySem.W.nsIn K mainGlobals "BadPattern" = some (some (.ref A_BadPattern)))
    (x_BadValue : PySem.W.nsIn K mainGlobals "BadValue" = some (some (.ref A_BadValue)))
    (x_NoSuchNumber : PySem.W.nsIn K mainGlobals "NoSuchNumber" = some (some (.ref A_NoSuchNumber)))
    (x_TooLarge : PySem.W.nsIn K mainGlobals "TooLarge" = some (some (.ref A_TooLarge)))
    (X1_BadPattern : K.lookup A_BadPattern = some (excClassObj nm_BadPattern qq_BadPattern A_BadPattern N_BadPattern bs_BadPattern bm_BadPattern true sn_BadPattern sb_BadPattern ab_BadPattern co_BadPattern dd_BadPattern m0_BadPattern m1_BadPattern m2_BadPattern m3_BadPattern m5_BadPattern "ValueError.__new__")) (X2_BadPattern : PySem.HandSPX.refsVE bm_BadPattern = true)
    (X3_BadPattern : PySem.W.findIn K (.ref A_BadPattern) "__setattr__" = some (some (.builtin "object.__setattr__"))) (X4_BadPattern : PySem.W.subIn K (.ref A_BadPattern) (.type "BaseException") = some true) (X5_BadPattern : PySem.W.typeIn K (.ref A_BadPattern) = some (.type "type")) (X6_BadPattern : PySem.W.keepIn K (.ref A_BadPattern) = true)
    (X7_BadPattern : PySem.W.findIn K (.ref A_BadPattern) "__init__" = some (some (.ref fI_BadPattern))) (X8_BadPattern : PySem.W.typeIn K (.ref fI_BadPattern) = some (.type "function")) (X9_BadPattern : K.lookup fI_BadPattern = some ⟨oc_BadPattern, od_BadPattern, .func (PySem.W.fnOf "__init__" "BadPattern.__init__" (defArgs s_BadPattern) (defBody s_BadPattern) (defScope s_BadPattern) .none kV_BadPattern dc_BadPattern pm_BadPattern an_BadPattern cd_BadPattern ct_BadPattern), sl_BadPattern⟩) (Xa_BadPattern : PySem.W.codeIn K cd_BadPattern "BadPattern.__init__" = true) (Xb_BadPattern : PySem.W.keepIn K (.ref fI_BadPattern) = true)
    (Y0_BadPattern : PySem.W.findIn K (.ref A_BadPattern) "text" = some none)
    (Xc_BadPattern : PySem.W.findIn K (.ref A_BadPattern) "__getattribute__" = some (some (.builtin "BaseException.__getattribute__"))) (Xd_BadPattern : PySem.W.findIn K (.ref A_BadPattern) "__getattr__" = some none) (Xe_BadPattern : PySem.W.hasDictIn K A_BadPattern = true)
    (Xf_BadPattern : PySem.W.findIn K (.ref A_BadPattern) "__class__" = some (some (.builtin "object.__class__"))) (Xg_BadPattern : PySem.W.specialIn K (.builtin "object.__class__") "__get__" = some (some (.builtin "getset_descriptor.__get__"))) (Xh_BadPattern : PySem.W.takesIn K (.builtin "object.__class__") = some true) (Xi_BadPattern : PySem.W.mroIn K A_BadPattern (.type "object") = some true)
    (X1_BadValue : K.lookup A_BadValue = some (excClassObj nm_BadValue qq_BadValue A_BadValue N_BadValue bs_BadValue bm_BadValue true sn_BadValue sb_BadValue ab_BadValue co_BadValue dd_BadValue m0_BadValue m1_BadValue m2_BadValue m3_BadValue m5_BadValue "ValueError.__new__")) (X2_BadValue : PySem.HandSPX.refsVE bm_BadValue = true)
    (X3_BadValue : PySem.W.findIn K (.ref A_BadValue) "__setattr__" = some (some (.builtin "object.__setattr__"))) (X4_BadValue : PySem.W.subIn K (.ref A_BadValue) (.type "BaseException") = some true) (X5_BadValue : PySem.W.typeIn K (.ref A_BadValue) = some (.type "type")) (X6_BadValue : PySem.W.keepIn K (.ref A_BadValue) = true)
    (X7_BadValue : PySem.W.findIn K (.ref A_BadValue) "__init__" = some (some (.ref fI_BadValue))) (X8_BadValue : PySem.W.typeIn K (.ref fI_BadValue) = some (.type "function")) (X9_BadValue : K.lookup fI_BadValue = some ⟨oc_BadValue, od_BadValue, .func (PySem.W.fnOf "__init__" "BadValue.__init__" (defArgs s_BadValue) (defBody s_BadValue) (defScope s_BadValue) .none kV_BadValue dc_BadValue pm_BadValue an_BadValue cd_BadValue ct_BadValue), sl_BadValue⟩) (Xa_BadValue : PySem.W.codeIn K cd_BadValue "BadValue.__init__" = true) (Xb_BadValue : PySem.W.keepIn K (.ref fI_BadValue) = true)
    (Y0_BadValue : PySem.W.findIn K (.ref A_BadValue) "text" = some none)
    (Xc_BadValue : PySem.W.findIn K (.ref A_BadValue) "__getattribute__" = some (some (.builtin "BaseException.__getattribute__"))) (Xd_BadValue : PySem.W.findIn K (.ref A_BadValue) "__getattr__" = some none) (Xe_BadValue : PySem.W.hasDictIn K A_BadValue = true)
    (Xf_BadValue : PySem.W.findIn K (.ref A_BadValue) "__class__" = some (some (.builtin "object.__class__"))) (Xg_BadValue : PySem.W.specialIn K (.builtin "object.__class__") "__get__" = some (some (.builtin "getset_descriptor.__get__"))) (Xh_BadValue : PySem.W.takesIn K (.builtin "object.__class__") = some true) (Xi_BadValue : PySem.W.mroIn K A_BadValue (.type "object") = some true)
    (X1_NoSuchNumber : K.lookup A_NoSuchNumber = some (excClassObj nm_NoSuchNumber qq_NoSuchNumber A_NoSuchNumber N_NoSuchNumber bs_NoSuchNumber bm_NoSuchNumber true sn_NoSuchNumber sb_NoSuchNumber ab_NoSuchNumber co_NoSuchNumber dd_NoSuchNumber m0_NoSuchNumber m1_NoSuchNumber m2_NoSuchNumber m3_NoSuchNumber m5_NoSuchNumber "ValueError.__new__")) (X2_NoSuchNumber : PySem.HandSPX.refsVE bm_NoSuchNumber = true)
    (X3_NoSuchNumber : PySem.W.findIn K (.ref A_NoSuchNumber) "__setattr__" = some (some (.builtin "object.__setattr__"))) (X4_NoSuchNumber : PySem.W.subIn K (.ref A_NoSuchNumber) (.type "BaseException") = some true) (X5_NoSuchNumber : PySem.W.typeIn K (.ref A_NoSuchNumber) = some (.type "type")) (X6_NoSuchNumber : PySem.W.keepIn K (.ref A_NoSuchNumber) = true)
    (X7_NoSuchNumber : PySem.W.findIn K (.ref A_NoSuchNumber) "__init__" = some (some (.ref fI_NoSuchNumber))) (X8_NoSuchNumber : PySem.W.typeIn K (.ref fI_NoSuchNumber) = some (.type "function")) (X9_NoSuchNumber : K.lookup fI_NoSuchNumber = some ⟨oc_NoSuchNumber, od_NoSuchNumber, .func (PySem.W.fnOf "__init__" "NoSuchNumber.__init__" (defArgs s_NoSuchNumber) (defBody s_NoSuchNumber) (defScope s_NoSuchNumber) .none kV_NoSuchNumber dc_NoSuchNumber pm_NoSuchNumber an_NoSuchNumber cd_NoSuchNumber ct_NoSuchNumber), sl_NoSuchNumber⟩) (Xa_NoSuchNumber : PySem.W.codeIn K cd_NoSuchNumber "NoSuchNumber.__init__" = true) (Xb_NoSuchNumber : PySem.W.keepIn K (.ref fI_NoSuchNumber) = true)
    (Y0_NoSuchNumber : PySem.W.findIn K (.ref A_NoSuchNumber) "number" = some none)
    (Xc_NoSuchNumber : PySem.W.findIn K (.ref A_NoSuchNumber) "__getattribute__" = some (some (.builtin "BaseException.__getattribute__"))) (Xd_NoSuchNumber : PySem.W.findIn K (.ref A_NoSuchNumber) "__getattr__" = some none) (Xe_NoSuchNumber : PySem.W.hasDictIn K A_NoSuchNumber = true)
    (Xf_NoSuchNumber : PySem.W.findIn K (.ref A_NoSuchNumber) "__class__" = some (some (.builtin "object.__class__"))) (Xg_NoSuchNumber : PySem.W.specialIn K (.builtin "object.__class__") "__get__" = some (some (.builtin "getset_descriptor.__get__"))) (Xh_NoSuchNumber : PySem.W.takesIn K (.builtin "object.__class__") = some true) (Xi_NoSuchNumber : PySem.W.mroIn K A_NoSuchNumber (.type "object") = some true)
    (X1_TooLarge : K.lookup A_TooLarge = some (excClassObj nm_TooLarge qq_TooLarge A_TooLarge N_TooLarge bs_TooLarge bm_TooLarge true sn_TooLarge sb_TooLarge ab_TooLarge co_TooLarge dd_TooLarge m0_TooLarge m1_TooLarge m2_TooLarge m3_TooLarge m5_TooLarge "ValueError.__new__")) (X2_TooLarge : PySem.HandSPX.refsVE bm_TooLarge = true)
    (X3_TooLarge : PySem.W.findIn K (.ref A_TooLarge) "__setattr__" = some (some (.builtin "object.__setattr__"))) (X4_TooLarge : PySem.W.subIn K (.ref A_TooLarge) (.type "BaseException") = some true) (X5_TooLarge : PySem.W.typeIn K (.ref A_TooLarge) = some (.type "type")) (X6_TooLarge : PySem.W.keepIn K (.ref A_TooLarge) = true)
    (X7_TooLarge : PySem.W.findIn K (.ref A_TooLarge) "__init__" = some (some (.ref fI_TooLarge))) (X8_TooLarge : PySem.W.typeIn K (.ref fI_TooLarge) = some (.type "function")) (X9_TooLarge : K.lookup fI_TooLarge = some ⟨oc_TooLarge, od_TooLarge, .func (PySem.W.fnOf "__init__" "TooLarge.__init__" (defArgs s_TooLarge) (defBody s_TooLarge) (defScope s_TooLarge) .none kV_TooLarge dc_TooLarge pm_TooLarge an_TooLarge cd_TooLarge ct_TooLarge), sl_TooLarge⟩) (Xa_TooLarge : PySem.W.codeIn K cd_TooLarge "TooLarge.__init__" = true) (Xb_TooLarge : PySem.W.keepIn K (.ref fI_TooLarge) = true)
    (Y0_TooLarge : PySem.W.findIn K (.ref A_TooLarge) "many" = some none)
    (Xc_TooLarge : PySem.W.findIn K (.ref A_TooLarge) "__getattribute__" = some (some (.builtin "BaseException.__getattribute__"))) (Xd_TooLarge : PySem.W.findIn K (.ref A_TooLarge) "__getattr__" = some none) (Xe_TooLarge : PySem.W.hasDictIn K A_TooLarge = true)
    (Xf_TooLarge : PySem.W.findIn K (.ref A_TooLarge) "__class__" = some (some (.builtin "object.__class__"))) (Xg_TooLarge : PySem.W.specialIn K (.builtin "object.__class__") "__get__" = some (some (.builtin "getset_descriptor.__get__"))) (Xh_TooLarge : PySem.W.takesIn K (.builtin "object.__class__") = some true) (Xi_TooLarge : PySem.W.mroIn K A_TooLarge (.type "object") = some true)
    (x_Pattern : PySem.W.nsIn K mainGlobals "Pattern" = some (some (.ref A_Pattern))) (P1_Pattern : PySem.W.plainGet K A_Pattern Str.empty = true) (P2_Pattern : PySem.W.hasDictIn K A_Pattern = true) (P3_Pattern : PySem.W.plainOver K A_Pattern = true) (P4_Pattern : PySem.W.findIn K (.ref A_Pattern) "__setattr__" = some (some (.builtin "object.__setattr__")))
    (x_Points : PySem.W.nsIn K mainGlobals "Points" = some (some (.ref A_Points))) (P1_Points : PySem.W.plainGet K A_Points Str.empty = true) (P2_Points : PySem.W.hasDictIn K A_Points = true) (P3_Points : PySem.W.plainOver K A_Points = true) (P4_Points : PySem.W.findIn K (.ref A_Points) "__setattr__" = some (some (.builtin "object.__setattr__")))
    (x_Rank : PySem.W.nsIn K mainGlobals "Rank" = some (some (.ref A_Rank))) (P1_Rank : PySem.W.plainGet K A_Rank Str.empty = true) (P2_Rank : PySem.W.hasDictIn K A_Rank = true) (P3_Rank : PySem.W.plainOver K A_Rank = true) (P4_Rank : PySem.W.findIn K (.ref A_Rank) "__setattr__" = some (some (.builtin "object.__setattr__")))
    (x_Sheet : PySem.W.nsIn K mainGlobals "Sheet" = some (some (.ref A_Sheet))) (P1_Sheet : PySem.W.plainGet K A_Sheet Str.empty = true) (P2_Sheet : PySem.W.hasDictIn K A_Sheet = true) (P3_Sheet : PySem.W.plainOver K A_Sheet = true) (P4_Sheet : PySem.W.findIn K (.ref A_Sheet) "__setattr__" = some (some (.builtin "object.__setattr__")))
    (M1_Pattern : PySem.W.makesIn K A_Pattern = true) (M2_Pattern : PySem.W.findIn K (.ref A_Pattern) "__init__" = some (some (.ref f5))) (M3_Pattern : PySem.W.isFn K (.ref f5) = true) (M4_Pattern : PySem.W.keepIn K (.ref A_Pattern) = true)
    (M1_Points : PySem.W.makesIn K A_Points = true) (M2_Points : PySem.W.findIn K (.ref A_Points) "__init__" = some (some (.ref f4))) (M3_Points : PySem.W.isFn K (.ref f4) = true) (M4_Points : PySem.W.keepIn K (.ref A_Points) = true)
    (M1_Rank : PySem.W.makesIn K A_Rank = true) (M2_Rank : PySem.W.findIn K (.ref A_Rank) "__init__" = some (some (.ref f8))) (M3_Rank : PySem.W.isFn K (.ref f8) = true) (M4_Rank : PySem.W.keepIn K (.ref A_Rank) = true)
    (M1_Sheet : PySem.W.makesIn K A_Sheet = true) (M2_Sheet : PySem.W.findIn K (.ref A_Sheet) "__init__" = some (some (.ref f21))) (M3_Sheet : PySem.W.isFn K (.ref f21) = true) (M4_Sheet : PySem.W.keepIn K (.ref A_Sheet) = true)
    (N_Pattern_links : PySem.W.findIn K (.ref A_Pattern) "links" = some none)
    (N_Pattern_tests : PySem.W.findIn K (.ref A_Pattern) "tests" = some none)
    (N_Pattern_text : PySem.W.findIn K (.ref A_Pattern) "text" = some none)
    (N_Points_ends : PySem.W.findIn K (.ref A_Points) "ends" = some none)
    (N_Points_linked : PySem.W.findIn K (.ref A_Points) "linked" = some none)
    (N_Points_tests : PySem.W.findIn K (.ref A_Points) "tests" = some none)
    (N_Rank_firm : PySem.W.findIn K (.ref A_Rank) "firm" = some none)
    (N_Rank_index : PySem.W.findIn K (.ref A_Rank) "index" = some none)
    (N_Rank_kinds : PySem.W.findIn K (.ref A_Rank) "kinds" = some none)
    (N_Rank_marks : PySem.W.findIn K (.ref A_Rank) "marks" = some none)
    (N_Sheet_lines : PySem.W.findIn K (.ref A_Sheet) "lines" = some none)
    (N_Sheet_order : PySem.W.findIn K (.ref A_Sheet) "order" = some none)
    (N_Sheet_points : PySem.W.findIn K (.ref A_Sheet) "points" = some none)
    (N_Sheet_rows : PySem.W.findIn K (.ref A_Sheet) "rows" = some none)
    (m1_Rank___eq__ : PySem.W.findIn K (.ref A_Rank) "__eq__" = some (some (.ref f10))) (m2_Rank___eq__ : PySem.W.isFn K (.ref f10) = true)
    (m1_Rank___ge__ : PySem.W.findIn K (.ref A_Rank) "__ge__" = some (some (.ref f15))) (m2_Rank___ge__ : PySem.W.isFn K (.ref f15) = true)
    (m1_Rank___gt__ : PySem.W.findIn K (.ref A_Rank) "__gt__" = some (some (.ref f14))) (m2_Rank___gt__ : PySem.W.isFn K (.ref f14) = true)
    (m1_Rank___le__ : PySem.W.findIn K (.ref A_Rank) "__le__" = some (some (.ref f13))) (m2_Rank___le__ : PySem.W.isFn K (.ref f13) = true)
    (m1_Rank___lt__ : PySem.W.findIn K (.ref A_Rank) "__lt__" = some (some (.ref f12))) (m2_Rank___lt__ : PySem.W.isFn K (.ref f12) = true)
    (m1_Rank___ne__ : PySem.W.findIn K (.ref A_Rank) "__ne__" = some (some (.ref f11))) (m2_Rank___ne__ : PySem.W.isFn K (.ref f11) = true)
    (m1_Rank_parts : PySem.W.findIn K (.ref A_Rank) "parts" = some (some (.ref f9))) (m2_Rank_parts : PySem.W.isFn K (.ref f9) = true)
    (m1_Sheet_rank : PySem.W.findIn K (.ref A_Sheet) "rank" = some (some (.ref f20))) (m2_Sheet_rank : PySem.W.isFn K (.ref f20) = true)
    (m1_Sheet_row : PySem.W.findIn K (.ref A_Sheet) "row" = some (some (.ref f19))) (m2_Sheet_row : PySem.W.isFn K (.ref f19) = true)
    (p1_Pattern_asked : PySem.W.findIn K (.ref A_Pattern) "asked" = some (some (.ref pp_Pattern_asked))) (p2_Pattern_asked : PySem.W.recIn K pp_Pattern_asked "property" = some (.ref f6 :: pq_Pattern_asked)) (p3_Pattern_asked : PySem.W.specialIn K (.ref pp_Pattern_asked) "__get__" = some (some (.builtin "property.__get__"))) (p4_Pattern_asked : PySem.W.takesIn K (.ref pp_Pattern_asked) = some true)
    (p1_Pattern_named : PySem.W.findIn K (.ref A_Pattern) "named" = some (some (.ref pp_Pattern_named))) (p2_Pattern_named : PySem.W.recIn K pp_Pattern_named "property" = some (.ref f7 :: pq_Pattern_named)) (p3_Pattern_named : PySem.W.specialIn K (.ref pp_Pattern_named) "__get__" = some (some (.builtin "property.__get__"))) (p4_Pattern_named : PySem.W.takesIn K (.ref pp_Pattern_named) = some true)
    (nf_Rank : PySem.W.notFirst K A_Rank (.ref A_Rank) = true)
    (I1_Rank : PySem.W.findIn K (.ref A_Rank) "__class__" = some (some (.builtin "object.__class__"))) (I2_Rank : PySem.W.specialIn K (.builtin "object.__class__") "__get__" = some (some (.builtin "getset_descriptor.__get__"))) (I3_Rank : PySem.W.takesIn K (.builtin "object.__class__") = some true) (I4_Rank : PySem.W.mroIn K A_Rank (.type "object") = some true) (Q_Rank_self : PySem.W.kitOne K (.ref A_Rank) (.ref A_Rank) = some true)
    (Q_Rank_NoneType : PySem.W.kitOne K (.type "NoneType") (.ref A_Rank) = some false)
    (Q_Rank_bool : PySem.W.kitOne K (.type "bool") (.ref A_Rank) = some false)
    (Q_Rank_int : PySem.W.kitOne K (.type "int") (.ref A_Rank) = some false)
    (Q_Rank_str : PySem.W.kitOne K (.type "str") (.ref A_Rank) = some false)
    (Q_Rank_list : PySem.W.kitOne K (.type "list") (.ref A_Rank) = some false)
    (Q_Rank_tuple : PySem.W.kitOne K (.type "tuple") (.ref A_Rank) = some false)
    (Q_Rank_dict : PySem.W.kitOne K (.type "dict") (.ref A_Rank) = some false)
    (W_Rank_NoneType : PySem.W.notFirst K A_Rank (.type "NoneType") = true)
    (W_Rank_bool : PySem.W.notFirst K A_Rank (.type "bool") = true)
    (W_Rank_int : PySem.W.notFirst K A_Rank (.type "int") = true)
    (W_Rank_str : PySem.W.notFirst K A_Rank (.type "str") = true)
    (W_Rank_list : PySem.W.notFirst K A_Rank (.type "list") = true)
    (W_Rank_tuple : PySem.W.notFirst K A_Rank (.type "tuple") = true)
    (W_Rank_dict : PySem.W.notFirst K A_Rank (.type "dict") = true)
    (MT_Rank : PySem.W.mroIn K A_Rank (.type "tuple") = some false) : ∃ T : Txt w K mg, T.f_law = f30 ∧ T.fd_law = PySem.W.fnOf "law" "law" (defArgs s_law) (defBody s_law) (defScope s_law) .none kV30 dc30 pm30 an30 cd30 ct30 := by
  have F0 := fun_mk (st := s_is_name) l0 c0 k0
  have b0 := F0.binds (ps := ["text"]) fun _ _ _ _ _ _ us hl => match us, hl with | [_], _ => rfl
  have F1 := fun_mk (st := s_digits_value) l1 c1 k1
  have b1 := F1.binds (ps := ["text"]) fun _ _ _ _ _ _ us hl => match us, hl with | [_], _ => rfl
  have F2 := fun_mk (st := s_read_test) l2 c2 k2
  have b2 := F2.binds (ps := ["word"]) fun _ _ _ _ _ _ us hl => match us, hl with | [_], _ => rfl
  have F3 := fun_mk (st := s_read_pattern) l3 c3 k3
  have b3 := F3.binds (ps := ["text"]) fun _ _ _ _ _ _ us hl => match us, hl with | [_], _ => rfl
  have F4 := fun_mk (st := s_Points_init) l4 c4 k4
  have b4 := F4.binds (ps := ["self", "patterns"]) fun _ _ _ _ _ _ us hl => match us, hl with | [_, _], _ => rfl
  have F5 := fun_mk (st := s_Pattern_init) l5 c5 k5
  have b5 := F5.binds (ps := ["self", "text"]) fun _ _ _ _ _ _ us hl => match us, hl with | [_, _], _ => rfl
  have F6 := fun_mk (st := s_Pattern_asked) l6 c6 k6
  have b6 := F6.binds (ps := ["self"]) fun _ _ _ _ _ _ us hl => match us, hl with | [_], _ => rfl
  have F7 := fun_mk (st := s_Pattern_named) l7 c7 k7
  have b7 := F7.binds (ps := ["self"]) fun _ _ _ _ _ _ us hl => match us, hl with | [_], _ => rfl
  have F8 := fun_mk (st := s_Rank_init) l8 c8 k8
  have b8 := F8.binds (ps := ["self", "firm", "marks", "kinds", "index"]) fun _ _ _ _ _ _ us hl => match us, hl with | [_, _, _, _, _], _ => rfl
  have F9 := fun_mk (st := s_Rank_parts) l9 c9 k9
  have b9 := F9.binds (ps := ["self"]) fun _ _ _ _ _ _ us hl => match us, hl with | [_], _ => rfl
  have F10 := fun_mk (st := s_Rank_eq) l10 c10 k10
  have b10 := F10.binds (ps := ["self", "other"]) fun _ _ _ _ _ _ us hl => match us, hl with | [_, _], _ => rfl
  have F11 := fun_mk (st := s_Rank_ne) l11 c11 k11
  have b11 := F11.binds (ps := ["self", "other"]) fun _ _ _ _ _ _ us hl => match us, hl with | [_, _], _ => rfl
  have F12 := fun_mk (st := s_Rank_lt) l12 c12 k12
  have b12 := F12.binds (ps := ["self", "other"]) fun _ _ _ _ _ _ us hl => match us, hl with | [_, _], _ => rfl
  have F13 := fun_mk (st := s_Rank_le) l13 c13 k13
  have b13 := F13.binds (ps := ["self", "other"]) fun _ _ _ _ _ _ us hl => match us, hl with | [_, _], _ => rfl
  have F14 := fun_mk (st := s_Rank_gt) l14 c14 k14
  have b14 := F14.binds (ps := ["self", "other"]) fun _ _ _ _ _ _ us hl => match us, hl with | [_, _], _ => rfl
  have F15 := fun_mk (st := s_Rank_ge) l15 c15 k15
  have b15 := F15.binds (ps := ["self", "other"]) fun _ _ _ _ _ _ us hl => match us, hl with | [_, _], _ => rfl
  have F16 := fun_mk (st := s_read_value) l16 c16 k16
  have b16 := F16.binds (ps := ["text"]) fun _ _ _ _ _ _ us hl => match us, hl with | [_], _ => rfl
  have F17 := fun_mk (st := s_read_row) l17 c17 k17
  have b17 := F17.binds (ps := ["line", "number"]) fun _ _ _ _ _ _ us hl => match us, hl with | [_, _], _ => rfl
  have F18 := fun_mk (st := s_descending) l18 c18 k18
  have b18 := F18.binds (ps := ["ranks"]) fun _ _ _ _ _ _ us hl => match us, hl with | [_], _ => rfl
  have F19 := fun_mk (st := s_Sheet_row) l19 c19 k19
  have b19 := F19.binds (ps := ["self", "index"]) fun _ _ _ _ _ _ us hl => match us, hl with | [_, _], _ => rfl
  have F20 := fun_mk (st := s_Sheet_rank) l20 c20 k20
  have b20 := F20.binds (ps := ["self", "index"]) fun _ _ _ _ _ _ us hl => match us, hl with | [_, _], _ => rfl
  have F21 := fun_mk (st := s_Sheet_init) l21 c21 k21
  have b21 := F21.binds (ps := ["self", "lines"]) fun _ _ _ _ _ _ us hl => match us, hl with | [_, _], _ => rfl
  have F22 := fun_mk (st := s_l_cell) l22 c22 k22
  have b22 := F22.binds (ps := ["_law_script", "_law_k"]) fun _ _ _ _ _ _ us hl => match us, hl with | [_, _], _ => rfl
  have F23 := fun_mk (st := s_l_row) l23 c23 k23
  have b23 := F23.binds (ps := ["_law_cell_here", "_law_limits"]) fun _ _ _ _ _ _ us hl => match us, hl with | [_, _], _ => rfl
  have F24 := fun_mk (st := s_l_number) l24 c24 k24
  have b24 := F24.binds (ps := ["_law_value"]) fun _ _ _ _ _ _ us hl => match us, hl with | [_], _ => rfl
  have F25 := fun_mk (st := s_l_parts) l25 c25 k25
  have b25 := F25.binds (ps := ["_law_cell_here", "_law_before"]) fun _ _ _ _ _ _ us hl => match us, hl with | [_, _], _ => rfl
  have F26 := fun_mk (st := s_l_line) l26 c26 k26
  have b26 := F26.binds (ps := ["_law_cell_here", "_law_index"]) fun _ _ _ _ _ _ us hl => match us, hl with | [_, _], _ => rfl
  have F27 := fun_mk (st := s_l_order) l27 c27 k27
  have b27 := F27.binds (ps := ["_law_one", "_law_two"]) fun _ _ _ _ _ _ us hl => match us, hl with | [_, _], _ => rfl
  have F28 := fun_mk (st := s_l_fields) l28 c28 k28
  have b28 := F28.binds (ps := ["_law_rank", "_law_parts_here"]) fun _ _ _ _ _ _ us hl => match us, hl with | [_, _], _ => rfl
  have F29 := fun_mk (st := s_l_compared) l29 c29 k29
  have b29 := F29.binds (ps := ["_law_one", "_law_two", "_law_order_here"]) fun _ _ _ _ _ _ us hl => match us, hl with | [_, _, _], _ => rfl
  have F30 := fun_mk (st := s_law) l30 c30 k30
  have b30 := F30.binds (ps := ["_law_script"]) fun _ _ _ _ _ _ us hl => match us, hl with | [_], _ => rfl
  have FI_BadPattern := fun_mk (st := s_BadPattern) X9_BadPattern Xa_BadPattern Xb_BadPattern
  have bI_BadPattern := FI_BadPattern.binds (ps := ["self", "text"]) fun _ _ _ _ _ _ us hl => match us, hl with | [_, _], _ => rfl
  have FI_BadValue := fun_mk (st := s_BadValue) X9_BadValue Xa_BadValue Xb_BadValue
  have bI_BadValue := FI_BadValue.binds (ps := ["self", "text"]) fun _ _ _ _ _ _ us hl => match us, hl with | [_, _], _ => rfl
  have FI_NoSuchNumber := fun_mk (st := s_NoSuchNumber) X9_NoSuchNumber Xa_NoSuchNumber Xb_NoSuchNumber
  have bI_NoSuchNumber := FI_NoSuchNumber.binds (ps := ["self", "number"]) fun _ _ _ _ _ _ us hl => match us, hl with | [_, _], _ => rfl
  have FI_TooLarge := fun_mk (st := s_TooLarge) X9_TooLarge Xa_TooLarge Xb_TooLarge
  have bI_TooLarge := FI_TooLarge.binds (ps := ["self", "many"]) fun _ _ _ _ _ _ us hl => match us, hl with | [_, _], _ => rfl
  exact ⟨⟨f0, _, F0, PySem.W.mg_of X G a0, b0, f1, _, F1, PySem.W.mg_of X G a1, b1, f2, _, F2, PySem.W.mg_of X G a2, b2, f3, _, F3, PySem.W.mg_of X G a3, b3, f4, _, F4, b4, f5, _, F5, b5, f6, _, F6, b6, f7, _, F7, b7, f8, _, F8, b8, f9, _, F9, b9, f10, _, F10, b10, f11, _, F11, b11, f12, _, F12, b12, f13, _, F13, b13, f14, _, F14, b14, f15, _, F15, b15, f16, _, F16, PySem.W.mg_of X G a16, b16, f17, _, F17, PySem.W.mg_of X G a17, b17, f18, _, F18, PySem.W.mg_of X G a18, b18, f19, _, F19, b19, f20, _, F20, b20, f21, _, F21, b21, f22, _, F22, PySem.W.mg_of X G a22, b22, f23, _, F23, PySem.W.mg_of X G a23, b23, f24, _, F24, PySem.W.mg_of X G a24, b24, f25, _, F25, PySem.W.mg_of X G a25, b25, f26, _, F26, PySem.W.mg_of X G a26, b26, f27, _, F27, PySem.W.mg_of X G a27, b27, f28, _, F28, PySem.W.mg_of X G a28, b28, f29, _, F29, PySem.W.mg_of X G a29, b29, f30, _, F30, PySem.W.mg_of X G a30, b30, PySem.W.mg_none_of X G z_NotImplemented, PySem.W.mg_none_of X G z_bool, PySem.W.mg_none_of X G z_enumerate, PySem.W.mg_none_of X G z_int, PySem.W.mg_none_of X G z_isinstance, PySem.W.mg_none_of X G z_len, PySem.W.mg_none_of X G z_list, PySem.W.mg_none_of X G z_range, PySem.W.mg_none_of X G z_tuple, PySem.W.mg_none_of X G z_zip, _, PySem.W.mg_of X G y_DIGITS, _, PySem.W.mg_of X G y_LETTERS, _, PySem.W.mg_of X G y_MOST_ROWS, _, PySem.W.mg_of X G y_MOST_TESTS, kA_LINKS_0, PySem.W.mg_of X G y_LINKS, ModD.mk (es := [⟨kh_LINKS_0, .str ">" kt_LINKS_0, .str "parent" kv_LINKS_0⟩, ⟨kh_LINKS_1, .str "+" kt_LINKS_1, .str "elder" kv_LINKS_1⟩]) kl_LINKS_0 kk_LINKS km_LINKS (.cons (v := .str "parent") (by decide +kernel) ⟨_, rfl⟩ (fun cm S => rp_lit (by decide +kernel)) (.cons (v := .str "elder") (by decide +kernel) ⟨_, rfl⟩ (fun cm S => rp_lit (by decide +kernel)) .nil)), kA_RANGES_0, PySem.W.mg_of X G y_RANGES, ModD.mk (es := [⟨kh_RANGES_0, .str "face" kt_RANGES_0, .ref kA_RANGES_1⟩, ⟨kh_RANGES_1, .str "size" kt_RANGES_1, .ref kA_RANGES_2⟩, ⟨kh_RANGES_2, .str "wide" kt_RANGES_2, .ref kA_RANGES_3⟩, ⟨kh_RANGES_3, .str "drop" kt_RANGES_3, .ref kA_RANGES_4⟩, ⟨kh_RANGES_4, .str "indent" kt_RANGES_4, .ref kA_RANGES_5⟩, ⟨kh_RANGES_5, .str "before" kt_RANGES_5, .ref kA_RANGES_6⟩]) kl_RANGES_0 kk_RANGES km_RANGES (.cons (v := .ref kA_RANGES_1) (by decide +kernel) rfl (fun cm S => (kt_mk (us := [.int (0) kt_RANGES_1_0, .int (2) kt_RANGES_1_1]) (xs := [.int (0), .int (2)]) kl_RANGES_1 (by simp) (.cons ⟨_, rfl⟩ (.cons ⟨_, rfl⟩ .nil)) (.cons (.int _) (.cons (.int _) .nil)))) (.cons (v := .ref kA_RANGES_2) (by decide +kernel) rfl (fun cm S => (kt_mk (us := [.int (1) kt_RANGES_2_0, .int (3) kt_RANGES_2_1]) (xs := [.int (1), .int (3)]) kl_RANGES_2 (by simp) (.cons ⟨_, rfl⟩ (.cons ⟨_, rfl⟩ .nil)) (.cons (.int _) (.cons (.int _) .nil)))) (.cons (v := .ref kA_RANGES_3) (by decide +kernel) rfl (fun cm S => (kt_mk (us := [.int (0) kt_RANGES_3_0, .int (3) kt_RANGES_3_1]) (xs := [.int (0), .int (3)]) kl_RANGES_3 (by simp) (.cons ⟨_, rfl⟩ (.cons ⟨_, rfl⟩ .nil)) (.cons (.int _) (.cons (.int _) .nil)))) (.cons (v := .ref kA_RANGES_4) (by decide +kernel) rfl (fun cm S => (kt_mk (us := [.int (0) kt_RANGES_4_0, .int (3) kt_RANGES_4_1]) (xs := [.int (0), .int (3)]) kl_RANGES_4 (by simp) (.cons ⟨_, rfl⟩ (.cons ⟨_, rfl⟩ .nil)) (.cons (.int _) (.cons (.int _) .nil)))) (.cons (v := .ref kA_RANGES_5) (by decide +kernel) rfl (fun cm S => (kt_mk (us := [.int (0) kt_RANGES_5_0, .int (9) kt_RANGES_5_1]) (xs := [.int (0), .int (9)]) kl_RANGES_5 (by simp) (.cons ⟨_, rfl⟩ (.cons ⟨_, rfl⟩ .nil)) (.cons (.int _) (.cons (.int _) .nil)))) (.cons (v := .ref kA_RANGES_6) (by decide +kernel) rfl (fun cm S => (kt_mk (us := [.int (0) kt_RANGES_6_0, .int (9) kt_RANGES_6_1]) (xs := [.int (0), .int (9)]) kl_RANGES_6 (by simp) (.cons ⟨_, rfl⟩ (.cons ⟨_, rfl⟩ .nil)) (.cons (.int _) (.cons (.int _) .nil)))) .nil)))))), A_BadPattern, PySem.W.mg_of X G x_BadPattern, A_BadValue, PySem.W.mg_of X G x_BadValue, A_NoSuchNumber, PySem.W.mg_of X G x_NoSuchNumber, A_TooLarge, PySem.W.mg_of X G x_TooLarge, ⟨⟨_, _, _, _, _, _, _, _, _, _, _, _, _, _, _, X1_BadPattern, X2_BadPattern⟩, X3_BadPattern, X4_BadPattern, X5_BadPattern, X6_BadPattern⟩, fI_BadPattern, _, X7_BadPattern, X8_BadPattern, FI_BadPattern, bI_BadPattern, Y0_BadPattern, ⟨Xc_BadPattern, Xd_BadPattern, X4_BadPattern, Xe_BadPattern⟩, ⟨Xc_BadPattern, Xd_BadPattern, X4_BadPattern, Xe_BadPattern, Xf_BadPattern, Xg_BadPattern, Xh_BadPattern, Xi_BadPattern⟩, ⟨⟨_, _, _, _, _, _, _, _, _, _, _, _, _, _, _, X1_BadValue, X2_BadValue⟩, X3_BadValue, X4_BadValue, X5_BadValue, X6_BadValue⟩, fI_BadValue, _, X7_BadValue, X8_BadValue, FI_BadValue, bI_BadValue, Y0_BadValue, ⟨Xc_BadValue, Xd_BadValue, X4_BadValue, Xe_BadValue⟩, ⟨Xc_BadValue, Xd_BadValue, X4_BadValue, Xe_BadValue, Xf_BadValue, Xg_BadValue, Xh_BadValue, Xi_BadValue⟩, ⟨⟨_, _, _, _, _, _, _, _, _, _, _, _, _, _, _, X1_NoSuchNumber, X2_NoSuchNumber⟩, X3_NoSuchNumber, X4_NoSuchNumber, X5_NoSuchNumber, X6_NoSuchNumber⟩, fI_NoSuchNumber, _, X7_NoSuchNumber, X8_NoSuchNumber, FI_NoSuchNumber, bI_NoSuchNumber, Y0_NoSuchNumber, ⟨Xc_NoSuchNumber, Xd_NoSuchNumber, X4_NoSuchNumber, Xe_NoSuchNumber⟩, ⟨Xc_NoSuchNumber, Xd_NoSuchNumber, X4_NoSuchNumber, Xe_NoSuchNumber, Xf_NoSuchNumber, Xg_NoSuchNumber, Xh_NoSuchNumber, Xi_NoSuchNumber⟩, ⟨⟨_, _, _, _, _, _, _, _, _, _, _, _, _, _, _, X1_TooLarge, X2_TooLarge⟩, X3_TooLarge, X4_TooLarge, X5_TooLarge, X6_TooLarge⟩, fI_TooLarge, _, X7_TooLarge, X8_TooLarge, FI_TooLarge, bI_TooLarge, Y0_TooLarge, ⟨Xc_TooLarge, Xd_TooLarge, X4_TooLarge, Xe_TooLarge⟩, ⟨Xc_TooLarge, Xd_TooLarge, X4_TooLarge, Xe_TooLarge, Xf_TooLarge, Xg_TooLarge, Xh_TooLarge, Xi_TooLarge⟩, A_Pattern, PySem.W.mg_of X G x_Pattern, ⟨P1_Pattern, P2_Pattern, P3_Pattern, P4_Pattern⟩, A_Points, PySem.W.mg_of X G x_Points, ⟨P1_Points, P2_Points, P3_Points, P4_Points⟩, A_Rank, PySem.W.mg_of X G x_Rank, ⟨P1_Rank, P2_Rank, P3_Rank, P4_Rank⟩, A_Sheet, PySem.W.mg_of X G x_Sheet, ⟨P1_Sheet, P2_Sheet, P3_Sheet, P4_Sheet⟩, ⟨M1_Pattern, M2_Pattern, M3_Pattern, M4_Pattern⟩, ⟨M1_Points, M2_Points, M3_Points, M4_Points⟩, ⟨M1_Rank, M2_Rank, M3_Rank, M4_Rank⟩, ⟨M1_Sheet, M2_Sheet, M3_Sheet, M4_Sheet⟩, N_Pattern_links, N_Pattern_tests, N_Pattern_text, N_Points_ends, N_Points_linked, N_Points_tests, N_Rank_firm, N_Rank_index, N_Rank_kinds, N_Rank_marks, N_Sheet_lines, N_Sheet_order, N_Sheet_points, N_Sheet_rows, ⟨m1_Rank___eq__, m2_Rank___eq__, k10⟩, ⟨m1_Rank___ge__, m2_Rank___ge__, k15⟩, ⟨m1_Rank___gt__, m2_Rank___gt__, k14⟩, ⟨m1_Rank___le__, m2_Rank___le__, k13⟩, ⟨m1_Rank___lt__, m2_Rank___lt__, k12⟩, ⟨m1_Rank___ne__, m2_Rank___ne__, k11⟩, ⟨m1_Rank_parts, m2_Rank_parts, k9⟩, ⟨m1_Sheet_rank, m2_Sheet_rank, k20⟩, ⟨m1_Sheet_row, m2_Sheet_row, k19⟩, pp_Pattern_asked, ⟨p1_Pattern_asked, p3_Pattern_asked, p4_Pattern_asked, ⟨_, p2_Pattern_asked⟩⟩, pp_Pattern_named, ⟨p1_Pattern_named, p3_Pattern_named, p4_Pattern_named, ⟨_, p2_Pattern_named⟩⟩, nf_Rank, ⟨⟨P1_Rank, P2_Rank, P3_Rank, P4_Rank⟩, I1_Rank, I2_Rank, I3_Rank, I4_Rank, Q_Rank_self, tyAll_of Q_Rank_NoneType Q_Rank_bool Q_Rank_int Q_Rank_str Q_Rank_list Q_Rank_tuple Q_Rank_dict⟩, (tyAll_of W_Rank_NoneType W_Rank_bool W_Rank_int W_Rank_str W_Rank_list W_Rank_tuple W_Rank_dict), MT_Rank⟩, rfl, rfl⟩
def spLaw (K : PySem.W.Frag) : Sp := fun vs H Q _ => ∃ (a : Addr) (ns : List Int), vs = [.ref a] ∧ SqL K H a (ns.map V.int) ∧ ns.length ≤ 63 ∧ ∀ H', Q (.bl true) H'
theorem ok_end {P : Program} {w : World} {K : PySem.W.Frag} {mg : Str → Option Value} {base : Heap} (T : Txt w K mg) : FnOk P w K mg base (L2.CX P w) 9 T.f_law T.fd_law ["_law_script"] (spLaw K) := FnOk.imp (ok_law T) fun vs H Q E ⟨a, ns, e, hS, hl, k⟩ => by
  subst e
  exact law_sp (law_true ns hl) hS k
theorem all_mk {l : PySem.W.OpenLaw} {w : World} {K : PySem.W.Frag} {h : Heap} {mg : Str → Option Value} {fa : Addr} (X : K.In h) (G : h.Ns mainGlobals mg) (hfa : mg "law" = some (.ref fa))
    {f0 : Addr} {oc0 kV0 dc0 pm0 cd0 ct0 : Value} {od0 an0 : Option Addr} {sl0 : Array (Option Value)}
    {f1 : Addr} {oc1 kV1 dc1 pm1 cd1 ct1 : Value} {od1 an1 : Option Addr} {sl1 : Array (Option Value)}
    {f2 : Addr} {oc2 kV2 dc2 pm2 cd2 ct2 : Value} {od2 an2 : Option Addr} {sl2 : Array (Option Value)}
    {f3 : Addr} {oc3 kV3 dc3 pm3 cd3 ct3 : Value} {od3 an3 : Option Addr} {sl3 : Array (Option Value)}
    {f4 : Addr} {oc4 kV4 dc4 pm4 cd4 ct4 : Value} {od4 an4 : Option Addr} {sl4 : Array (Option Value)}
    {f5 : Addr} {oc5 kV5 dc5 pm5 cd5 ct5 : Value} {od5 an5 : Option Addr} {sl5 : Array (Option Value)}
    {f6 : Addr} {oc6 kV6 dc6 pm6 cd6 ct6 : Value} {od6 an6 : Option Addr} {sl6 : Array (Option Value)}
    {f7 : Addr} {oc7 kV7 dc7 pm7 cd7 ct7 : Value} {od7 an7 : Option Addr} {sl7 : Array (Option Value)}
    {f8 : Addr} {oc8 kV8 dc8 pm8 cd8 ct8 : Value} {od8 an8 : Option Addr} {sl8 : Array (Option Value)}
    {f9 : Addr} {oc9 kV9 dc9 pm9 cd9 ct9 : Value} {od9 an9 : Option Addr} {sl9 : Array (Option Value)}
    {f10 : Addr} {oc10 kV10 dc10 pm10 cd10 ct10 : Value} {od10 an10 : Option Addr} {sl10 : Array (Option Value)}
    {f11 : Addr} {oc11 kV11 dc11 pm11 cd11 ct11 : Value} {od11 an11 : Option Addr} {sl11 : Array (Option Value)}
    {f12 : Addr} {oc12 kV12 dc12 pm12 cd12 ct12 : Value} {od12 an12 : Option Addr} {sl12 : Array (Option Value)}
    {f13 : Addr} {oc13 kV13 dc13 pm13 cd13 ct13 : Value} {od13 an13 : Option Addr} {sl13 : Array (Option Value)}
    {f14 : Addr} {oc14 kV14 dc14 pm14 cd14 ct14 : Value} {od14 an14 : Option Addr} {sl14 : Array (Option Value)}
    {f15 : Addr} {oc15 kV15 dc15 pm15 cd15 ct15 : Value} {od15 an15 : Option Addr} {sl15 : Array (Option Value)}
    {f16 : Addr} {oc16 kV16 dc16 pm16 cd16 ct16 : Value} {od16 an16 : Option Addr} {sl16 : Array (Option Value)}
    {f17 : Addr} {oc17 kV17 dc17 pm17 cd17 ct17 : Value} {od17 an17 : Option Addr} {sl17 : Array (Option Value)}
    {f18 : Addr} {oc18 kV18 dc18 pm18 cd18 ct18 : Value} {od18 an18 : Option Addr} {sl18 : Array (Option Value)}
    {f19 : Addr} {oc19 kV19 dc19 pm19 cd19 ct19 : Value} {od19 an19 : Option Addr} {sl19 : Array (Option Value)}
    {f20 : Addr} {oc20 kV20 dc20 pm20 cd20 ct20 : Value} {od20 an20 : Option Addr} {sl20 : Array (Option Value)}
    {f21 : Addr} {oc21 kV21 dc21 pm21 cd21 ct21 : Value} {od21 an21 : Option Addr} {sl21 : Array (Option Value)}
    {f22 : Addr} {oc22 kV22 dc22 pm22 cd22 ct22 : Value} {od22 an22 : Option Addr} {sl22 : Array (Option Value)}
    {f23 : Addr} {oc23 kV23 dc23 pm23 cd23 ct23 : Value} {od23 an23 : Option Addr} {sl23 : Array (Option Value)}
    {f24 : Addr} {oc24 kV24 dc24 pm24 cd24 ct24 : Value} {od24 an24 : Option Addr} {sl24 : Array (Option Value)}
    {f25 : Addr} {oc25 kV25 dc25 pm25 cd25 ct25 : Value} {od25 an25 : Option Addr} {sl25 : Array (Option Value)}
    {f26 : Addr} {oc26 kV26 dc26 pm26 cd26 ct26 : Value} {od26 an26 : Option Addr} {sl26 : Array (Option Value)}
    {f27 : Addr} {oc27 kV27 dc27 pm27 cd27 ct27 : Value} {od27 an27 : Option Addr} {sl27 : Array (Option Value)}
    {f28 : Addr} {oc28 kV28 dc28 pm28 cd28 ct28 : Value} {od28 an28 : Option Addr} {sl28 : Array (Option Value)}
    {f29 : Addr} {oc29 kV29 dc29 pm29 cd29 ct29 : Value} {od29 an29 : Option Addr} {sl29 : Array (Option Value)}
    {f30 : Addr} {oc30 kV30 dc30 pm30 cd30 ct30 : Value} {od30 an30 : Option Addr} {sl30 : Array (Option Value)}
    {t_DIGITS : Tok}
    {t_LETTERS : Tok}
    {t_MOST_ROWS : Tok}
    {t_MOST_TESTS : Tok}
    {kA_LINKS_0 : Addr} {kn_LINKS_0 : Nat}
    {kh_LINKS_0 : Int} {kt_LINKS_0 : Tok}
    {kv_LINKS_0 : Tok}
    {kh_LINKS_1 : Int} {kt_LINKS_1 : Tok}
    {kv_LINKS_1 : Tok}
    {kA_RANGES_0 : Addr} {kn_RANGES_0 : Nat}
    {kh_RANGES_0 : Int} {kt_RANGES_0 : Tok}
    {kt_RANGES_1_0 : Tok}
    {kt_RANGES_1_1 : Tok}
    {kA_RANGES_1 : Addr} {kod_RANGES_1 : Option Addr} {kn_RANGES_1 : Nat} {ksl_RANGES_1 : Array (Option Value)}
    {kh_RANGES_1 : Int} {kt_RANGES_1 : Tok}
    {kt_RANGES_2_0 : Tok}
    {kt_RANGES_2_1 : Tok}
    {kA_RANGES_2 : Addr} {kod_RANGES_2 : Option Addr} {kn_RANGES_2 : Nat} {ksl_RANGES_2 : Array (Option Value)}
    {kh_RANGES_2 : Int} {kt_RANGES_2 : Tok}
    {kt_RANGES_3_0 : Tok}
    {kt_RANGES_3_1 : Tok}
    {kA_RANGES_3 : Addr} {kod_RANGES_3 : Option Addr} {kn_RANGES_3 : Nat} {ksl_RANGES_3 : Array (Option Value)}
    {kh_RANGES_3 : Int} {kt_RANGES_3 : Tok}
    {kt_RANGES_4_0 : Tok}
    {kt_RANGES_4_1 : Tok}
    {kA_RANGES_4 : Addr} {kod_RANGES_4 : Option Addr} {kn_RANGES_4 : Nat} {ksl_RANGES_4 : Array (Option Value)}
    {kh_RANGES_4 : Int} {kt_RANGES_4 : Tok}
    {kt_RANGES_5_0 : Tok}
    {kt_RANGES_5_1 : Tok}
    {kA_RANGES_5 : Addr} {kod_RANGES_5 : Option Addr} {kn_RANGES_5 : Nat} {ksl_RANGES_5 : Array (Option Value)}
    {kh_RANGES_5 : Int} {kt_RANGES_5 : Tok}
    {kt_RANGES_6_0 : Tok}
    {kt_RANGES_6_1 : Tok}
    {kA_RANGES_6 : Addr} {kod_RANGES_6 : Option Addr} {kn_RANGES_6 : Nat} {ksl_RANGES_6 : Array (Option Value)}
    {A_BadPattern : Addr}
    {A_BadValue : Addr}
    {A_NoSuchNumber : Addr}
    {A_TooLarge : Addr}
    {nm_BadPattern qq_BadPattern : Str} {N_BadPattern fI_BadPattern : Addr} {bs_BadPattern bm_BadPattern : List Value} {sn_BadPattern : List Str} {sb_BadPattern : List Value} {ab_BadPattern : Bool} {co_BadPattern : Option Bool} {dd_BadPattern od_BadPattern an_BadPattern : Option Addr} {m0_BadPattern m1_BadPattern m2_BadPattern m3_BadPattern m5_BadPattern : Option Value} {oc_BadPattern kV_BadPattern dc_BadPattern pm_BadPattern cd_BadPattern ct_BadPattern : Value} {sl_BadPattern : Array (Option Value)}
    {nm_BadValue qq_BadValue : Str} {N_BadValue fI_BadValue : Addr} {bs_BadValue bm_BadValue : List Value} {sn_BadValue : List Str} {sb_BadValue : List Value} {ab_BadValue : Bool} {co_BadValue : Option Bool} {dd_BadValue od_BadValue an_BadValue : Option Addr} {m0_BadValue m1_BadValue m2_BadValue m3_BadValue m5_BadValue : Option Value} {oc_BadValue kV_BadValue dc_BadValue pm_BadValue cd_BadValue ct_BadValue : Value} {sl_BadValue : Array (Option Value)}
    {nm_NoSuchNumber qq_NoSuchNumber : Str} {N_NoSuchNumber fI_NoSuchNumber : Addr} {bs_NoSuchNumber bm_NoSuchNumber : List Value} {sn_NoSuchNumber : List Str} {sb_NoSuchNumber : List Value} {ab_NoSuchNumber : Bool} {co_NoSuchNumber : Option Bool} {dd_NoSuchNumber od_NoSuchNumber an_NoSuchNumber : Option Addr} {m0_NoSuchNumber m1_NoSuchNumber m2_NoSuchNumber m3_NoSuchNumber m5_NoSuchNumber : Option Value} {oc_NoSuchNumber kV_NoSuchNumber dc_NoSuchNumber pm_NoSuchNumber cd_NoSuchNumber ct_NoSuchNumber : Value} {sl_NoSuchNumber : Array (Option Value)}
    {nm_TooLarge qq_TooLarge : Str} {N_TooLarge fI_TooLarge : Addr} {bs_TooLarge bm_TooLarge : List Value} {sn_TooLarge : List Str} {sb_TooLarge : List Value} {ab_TooLarge : Bool} {co_TooLarge : Option Bool} {dd_TooLarge od_TooLarge an_TooLarge : Option Addr} {m0_TooLarge m1_TooLarge m2_TooLarge m3_TooLarge m5_TooLarge : Option Value} {oc_TooLarge kV_TooLarge dc_TooLarge pm_TooLarge cd_TooLarge ct_TooLarge : Value} {sl_TooLarge : Array (Option Value)}
    {A_Pattern : Addr}
    {A_Points : Addr}
    {A_Rank : Addr}
    {A_Sheet : Addr}
    {pp_Pattern_asked : Addr} {pq_Pattern_asked : List Value}
    {pp_Pattern_named : Addr} {pq_Pattern_named : List Value}
    (a0 : PySem.W.nsIn K mainGlobals "is_name" = some (some (.ref f0)))
    (l0 : K.lookup f0 = some ⟨oc0, od0, .func (PySem.W.fnOf "is_name" "is_name" (defArgs s_is_name) (defBody s_is_name) (defScope s_is_name) .none kV0 dc0 pm0 an0 cd0 ct0), sl0⟩) (c0 : PySem.W.codeIn K cd0 "is_name" = true) (k0 : PySem.W.keepIn K (.ref f0) = true)
    (a1 : PySem.W.nsIn K mainGlobals "digits_value" = some (some (.ref f1)))
    (l1 : K.lookup f1 = some ⟨oc1, od1, .func (PySem.W.fnOf "digits_value" "digits_value" (defArgs s_digits_value) (defBody s_digits_value) (defScope s_digits_value) .none kV1 dc1 pm1 an1 cd1 ct1), sl1⟩) (c1 : PySem.W.codeIn K cd1 "digits_value" = true) (k1 : PySem.W.keepIn K (.ref f1) = true)
    (a2 : PySem.W.nsIn K mainGlobals "read_test" = some (some (.ref f2)))
    (l2 : K.lookup f2 = some ⟨oc2, od2, .func (PySem.W.fnOf "read_test" "read_test" (defArgs s_read_test) (defBody s_read_test) (defScope s_read_test) .none kV2 dc2 pm2 an2 cd2 ct2), sl2⟩) (c2 : PySem.W.codeIn K cd2 "read_test" = true) (k2 : PySem.W.keepIn K (.ref f2) = true)
    (a3 : PySem.W.nsIn K mainGlobals "read_pattern" = some (some (.ref f3)))
    (l3 : K.lookup f3 = some ⟨oc3, od3, .func (PySem.W.fnOf "read_pattern" "read_pattern" (defArgs s_read_pattern) (defBody s_read_pattern) (defScope s_read_pattern) .none kV3 dc3 pm3 an3 cd3 ct3), sl3⟩) (c3 : PySem.W.codeIn K cd3 "read_pattern" = true) (k3 : PySem.W.keepIn K (.ref f3) = true)
    (l4 : K.lookup f4 = some ⟨oc4, od4, .func (PySem.W.fnOf "__init__" "Points.__init__" (defArgs s_Points_init) (defBody s_Points_init) (defScope s_Points_init) .none kV4 dc4 pm4 an4 cd4 ct4), sl4⟩) (c4 : PySem.W.codeIn K cd4 "Points.__init__" = true) (k4 : PySem.W.keepIn K (.ref f4) = true)
    (l5 : K.lookup f5 = some ⟨oc5, od5, .func (PySem.W.fnOf "__init__" "Pattern.__init__" (defArgs s_Pattern_init) (defBody s_Pattern_init) (defScope s_Pattern_init) .none kV5 dc5 pm5 an5 cd5 ct5), sl5⟩) (c5 : PySem.W.codeIn K cd5 "Pattern.__init__" = true) (k5 : PySem.W.keepIn K (.ref f5) = true)
    (l6 : K.lookup f6 = some ⟨oc6, od6, .func (PySem.W.fnOf "asked" "Pattern.asked" (defArgs s_Pattern_asked) (defBody s_Pattern_asked) (defScope s_Pattern_asked) .none kV6 dc6 pm6 an6 cd6 ct6), sl6⟩) (c6 : PySem.W.codeIn K cd6 "Pattern.asked" = true) (k6 : PySem.W.keepIn K (.ref f6) = true)
    (l7 : K.lookup f7 = some ⟨oc7, od7, .func (PySem.W.fnOf "named" "Pattern.named" (defArgs s_Pattern_named) (defBody s_Pattern_named) (defScope s_Pattern_named) .none kV7 dc7 pm7 an7 cd7 ct7), sl7⟩) (c7 : PySem.W.codeIn K cd7 "Pattern.named" = true) (k7 : PySem.W.keepIn K (.ref f7) = true)
    (l8 : K.lookup f8 = some ⟨oc8, od8, .func (PySem.W.fnOf "__init__" "Rank.__init__" (defArgs s_Rank_init) (defBody s_Rank_init) (defScope s_Rank_init) .none kV8 dc8 pm8 an8 cd8 ct8), sl8⟩) (c8 : PySem.W.codeIn K cd8 "Rank.__init__" = true) (k8 : PySem.W.keepIn K (.ref f8) = true)
    (l9 : K.lookup f9 = some ⟨oc9, od9, .func (PySem.W.fnOf "parts" "Rank.parts" (defArgs s_Rank_parts) (defBody s_Rank_parts) (defScope s_Rank_parts) .none kV9 dc9 pm9 an9 cd9 ct9), sl9⟩) (c9 : PySem.W.codeIn K cd9 "Rank.parts" = true) (k9 : PySem.W.keepIn K (.ref f9) = true)
    (l10 : K.lookup f10 = some ⟨oc10, od10, .func (PySem.W.fnOf "__eq__" "Rank.__eq__" (defArgs s_Rank_eq) (defBody s_Rank_eq) (defScope s_Rank_eq) .none kV10 dc10 pm10 an10 cd10 ct10), sl10⟩) (c10 : PySem.W.codeIn K cd10 "Rank.__eq__" = true) (k10 : PySem.W.keepIn K (.ref f10) = true)
    (l11 : K.lookup f11 = some ⟨oc11, od11, .func (PySem.W.fnOf "__ne__" "Rank.__ne__" (defArgs s_Rank_ne) (defBody s_Rank_ne) (defScope s_Rank_ne) .none kV11 dc11 pm11 an11 cd11 ct11), sl11⟩) (c11 : PySem.W.codeIn K cd11 "Rank.__ne__" = true) (k11 : PySem.W.keepIn K (.ref f11) = true)
    (l12 : K.lookup f12 = some ⟨oc12, od12, .func (PySem.W.fnOf "__lt__" "Rank.__lt__" (defArgs s_Rank_lt) (defBody s_Rank_lt) (defScope s_Rank_lt) .none kV12 dc12 pm12 an12 cd12 ct12), sl12⟩) (c12 : PySem.W.codeIn K cd12 "Rank.__lt__" = true) (k12 : PySem.W.keepIn K (.ref f12) = true)
    (l13 : K.lookup f13 = some ⟨oc13, od13, .func (PySem.W.fnOf "__le__" "Rank.__le__" (defArgs s_Rank_le) (defBody s_Rank_le) (defScope s_Rank_le) .none kV13 dc13 pm13 an13 cd13 ct13), sl13⟩) (c13 : PySem.W.codeIn K cd13 "Rank.__le__" = true) (k13 : PySem.W.keepIn K (.ref f13) = true)
    (l14 : K.lookup f14 = some ⟨oc14, od14, .func (PySem.W.fnOf "__gt__" "Rank.__gt__" (defArgs s_Rank_gt) (defBody s_Rank_gt) (defScope s_Rank_gt) .none kV14 dc14 pm14 an14 cd14 ct14), sl14⟩) (c14 : PySem.W.codeIn K cd14 "Rank.__gt__" = true) (k14 : PySem.W.keepIn K (.ref f14) = true)
    (l15 : K.lookup f15 = some ⟨oc15, od15, .func (PySem.W.fnOf "__ge__" "Rank.__ge__" (defArgs s_Rank_ge) (defBody s_Rank_ge) (defScope s_Rank_ge) .none kV15 dc15 pm15 an15 cd15 ct15), sl15⟩) (c15 : PySem.W.codeIn K cd15 "Rank.__ge__" = true) (k15 : PySem.W.keepIn K (.ref f15) = true)
    (a16 : PySem.W.nsIn K mainGlobals "read_value" = some (some (.ref f16)))
    (l16 : K.lookup f16 = some ⟨oc16, od16, .func (PySem.W.fnOf "read_value" "read_value" (defArgs s_read_value) (defBody s_read_value) (defScope s_read_value) .none kV16 dc16 pm16 an16 cd16 ct16), sl16⟩) (c16 : PySem.W.codeIn K cd16 "read_value" = true) (k16 : PySem.W.keepIn K (.ref f16) = true)
    (a17 : PySem.W.nsIn K mainGlobals "read_row" = some (some (.ref f17)))
    (l17 : K.lookup f17 = some ⟨oc17, od17, .func (PySem.W.fnOf "read_row" "read_row" (defArgs s_read_row) (defBody s_read_row) (defScope s_read_row) .none kV17 dc17 pm17 an17 cd17 ct17), sl17⟩) (c17 : PySem.W.codeIn K cd17 "read_row" = true) (k17 : PySem.W.keepIn K (.ref f17) = true)
    (a18 : PySem.W.nsIn K mainGlobals "descending" = some (some (.ref f18)))
    (l18 : K.lookup f18 = some ⟨oc18, od18, .func (PySem.W.fnOf "descending" "descending" (defArgs s_descending) (defBody s_descending) (defScope s_descending) .none kV18 dc18 pm18 an18 cd18 ct18), sl18⟩) (c18 : PySem.W.codeIn K cd18 "descending" = true) (k18 : PySem.W.keepIn K (.ref f18) = true)
    (l19 : K.lookup f19 = some ⟨oc19, od19, .func (PySem.W.fnOf "row" "Sheet.row" (defArgs s_Sheet_row) (defBody s_Sheet_row) (defScope s_Sheet_row) .none kV19 dc19 pm19 an19 cd19 ct19), sl19⟩) (c19 : PySem.W.codeIn K cd19 "Sheet.row" = true) (k19 : PySem.W.keepIn K (.ref f19) = true)
    (l20 : K.lookup f20 = some ⟨oc20, od20, .func (PySem.W.fnOf "rank" "Sheet.rank" (defArgs s_Sheet_rank) (defBody s_Sheet_rank) (defScope s_Sheet_rank) .none kV20 dc20 pm20 an20 cd20 ct20), sl20⟩) (c20 : PySem.W.codeIn K cd20 "Sheet.rank" = true) (k20 : PySem.W.keepIn K (.ref f20) = true)
    (l21 : K.lookup f21 = some ⟨oc21, od21, .func (PySem.W.fnOf "__init__" "Sheet.__init__" (defArgs s_Sheet_init) (defBody s_Sheet_init) (defScope s_Sheet_init) .none kV21 dc21 pm21 an21 cd21 ct21), sl21⟩) (c21 : PySem.W.codeIn K cd21 "Sheet.__init__" = true) (k21 : PySem.W.keepIn K (.ref f21) = true)
    (a22 : PySem.W.nsIn K mainGlobals "_law_cell" = some (some (.ref f22)))
    (l22 : K.lookup f22 = some ⟨oc22, od22, .func (PySem.W.fnOf "_law_cell" "_law_cell" (defArgs s_l_cell) (defBody s_l_cell) (defScope s_l_cell) .none kV22 dc22 pm22 an22 cd22 ct22), sl22⟩) (c22 : PySem.W.codeIn K cd22 "_law_cell" = true) (k22 : PySem.W.keepIn K (.ref f22) = true)
    (a23 : PySem.W.nsIn K mainGlobals "_law_row" = some (some (.ref f23)))
    (l23 : K.lookup f23 = some ⟨oc23, od23, .func (PySem.W.fnOf "_law_row" "_law_row" (defArgs s_l_row) (defBody s_l_row) (defScope s_l_row) .none kV23 dc23 pm23 an23 cd23 ct23), sl23⟩) (c23 : PySem.W.codeIn K cd23 "_law_row" = true) (k23 : PySem.W.keepIn K (.ref f23) = true)
    (a24 : PySem.W.nsIn K mainGlobals "_law_number" = some (some (.ref f24)))
    (l24 : K.lookup f24 = some ⟨oc24, od24, .func (PySem.W.fnOf "_law_number" "_law_number" (defArgs s_l_number) (defBody s_l_number) (defScope s_l_number) .none kV24 dc24 pm24 an24 cd24 ct24), sl24⟩) (c24 : PySem.W.codeIn K cd24 "_law_number" = true) (k24 : PySem.W.keepIn K (.ref f24) = true)
    (a25 : PySem.W.nsIn K mainGlobals "_law_parts" = some (some (.ref f25)))
    (l25 : K.lookup f25 = some ⟨oc25, od25, .func (PySem.W.fnOf "_law_parts" "_law_parts" (defArgs s_l_parts) (defBody s_l_parts) (defScope s_l_parts) .none kV25 dc25 pm25 an25 cd25 ct25), sl25⟩) (c25 : PySem.W.codeIn K cd25 "_law_parts" = true) (k25 : PySem.W.keepIn K (.ref f25) = true)
    (a26 : PySem.W.nsIn K mainGlobals "_law_line" = some (some (.ref f26)))
    (l26 : K.lookup f26 = some ⟨oc26, od26, .func (PySem.W.fnOf "_law_line" "_law_line" (defArgs s_l_line) (defBody s_l_line) (defScope s_l_line) .none kV26 dc26 pm26 an26 cd26 ct26), sl26⟩) (c26 : PySem.W.codeIn K cd26 "_law_line" = true) (k26 : PySem.W.keepIn K (.ref f26) = true)
    (a27 : PySem.W.nsIn K mainGlobals "_law_order" = some (some (.ref f27)))
    (l27 : K.lookup f27 = some ⟨oc27, od27, .func (PySem.W.fnOf "_law_order" "_law_order" (defArgs s_l_order) (defBody s_l_order) (defScope s_l_order) .none kV27 dc27 pm27 an27 cd27 ct27), sl27⟩) (c27 : PySem.W.codeIn K cd27 "_law_order" = true) (k27 : PySem.W.keepIn K (.ref f27) = true)
    (a28 : PySem.W.nsIn K mainGlobals "_law_fields" = some (some (.ref f28)))
    (l28 : K.lookup f28 = some ⟨oc28, od28, .func (PySem.W.fnOf "_law_fields" "_law_fields" (defArgs s_l_fields) (defBody s_l_fields) (defScope s_l_fields) .none kV28 dc28 pm28 an28 cd28 ct28), sl28⟩) (c28 : PySem.W.codeIn K cd28 "_law_fields" = true) (k28 : PySem.W.keepIn K (.ref f28) = true)
    (a29 : PySem.W.nsIn K mainGlobals "_law_compared" = some (some (.ref f29)))
    (l29 : K.lookup f29 = some ⟨oc29, od29, .func (PySem.W.fnOf "_law_compared" "_law_compared" (defArgs s_l_compared) (defBody s_l_compared) (defScope s_l_compared) .none kV29 dc29 pm29 an29 cd29 ct29), sl29⟩) (c29 : PySem.W.codeIn K cd29 "_law_compared" = true) (k29 : PySem.W.keepIn K (.ref f29) = true)
    (a30 : PySem.W.nsIn K mainGlobals "law" = some (some (.ref f30)))
    (l30 : K.lookup f30 = some ⟨oc30, od30, .func (PySem.W.fnOf "law" "law" (defArgs s_law) (defBody s_law) (defScope s_law) .none kV30 dc30 pm30 an30 cd30 ct30), sl30⟩) (c30 : PySem.W.codeIn K cd30 "law" = true) (k30 : PySem.W.keepIn K (.ref f30) = true)
    (z_NotImplemented : PySem.W.nsIn K mainGlobals "NotImplemented" = some none)
    (z_bool : PySem.W.nsIn K mainGlobals "bool" = some none)
    (z_enumerate : PySem.W.nsIn K mainGlobals "enumerate" = some none)
    (z_int : PySem.W.nsIn K mainGlobals "int" = some none)
    (z_isinstance : PySem.W.nsIn K mainGlobals "isinstance" = some none)
    (z_len : PySem.W.nsIn K mainGlobals "len" = some none)
    (z_list : PySem.W.nsIn K mainGlobals "list" = some none)
    (z_range : PySem.W.nsIn K mainGlobals "range" = some none)
    (z_tuple : PySem.W.nsIn K mainGlobals "tuple" = some none)
    (z_zip : PySem.W.nsIn K mainGlobals "zip" = some none)
    (y_DIGITS : PySem.W.nsIn K mainGlobals "DIGITS" = some (some (.str "0123456789" t_DIGITS)))
    (y_LETTERS : PySem.W.nsIn K mainGlobals "LETTERS" = some (some (.str "abcdefghijklmnopqrstuvwxyz" t_LETTERS)))
    (y_MOST_ROWS : PySem.W.nsIn K mainGlobals "MOST_ROWS" = some (some (.int 12 t_MOST_ROWS)))
    (y_MOST_TESTS : PySem.W.nsIn K mainGlobals "MOST_TESTS" = some (some (.int 4 t_MOST_TESTS)))
    (y_LINKS : PySem.W.nsIn K mainGlobals "LINKS" = some (some (.ref kA_LINKS_0)))
    (kl_LINKS_0 : K.lookup kA_LINKS_0 = some ⟨.type "dict", none, .dict #[⟨kh_LINKS_0, .str ">" kt_LINKS_0, .str "parent" kv_LINKS_0⟩, ⟨kh_LINKS_1, .str "+" kt_LINKS_1, .str "elder" kv_LINKS_1⟩] kn_LINKS_0, #[]⟩)
    (kk_LINKS : PySem.W.KeysLit w.params [⟨kh_LINKS_0, .str ">" kt_LINKS_0, .str "parent" kv_LINKS_0⟩, ⟨kh_LINKS_1, .str "+" kt_LINKS_1, .str "elder" kv_LINKS_1⟩])
    (km_LINKS : (kA_LINKS_0 == sysModules) = false)
    (y_RANGES : PySem.W.nsIn K mainGlobals "RANGES" = some (some (.ref kA_RANGES_0)))
    (kl_RANGES_1 : K.lookup kA_RANGES_1 = some ⟨.type "tuple", kod_RANGES_1, .seq #[.int (0) kt_RANGES_1_0, .int (2) kt_RANGES_1_1] kn_RANGES_1, ksl_RANGES_1⟩)
    (kl_RANGES_2 : K.lookup kA_RANGES_2 = some ⟨.type "tuple", kod_RANGES_2, .seq #[.int (1) kt_RANGES_2_0, .int (3) kt_RANGES_2_1] kn_RANGES_2, ksl_RANGES_2⟩)
    (kl_RANGES_3 : K.lookup kA_RANGES_3 = some ⟨.type "tuple", kod_RANGES_3, .seq #[.int (0) kt_RANGES_3_0, .int (3) kt_RANGES_3_1] kn_RANGES_3, ksl_RANGES_3⟩)
    (kl_RANGES_4 : K.lookup kA_RANGES_4 = some ⟨.type "tuple", kod_RANGES_4, .seq #[.int (0) kt_RANGES_4_0, .int (3) kt_RANGES_4_1] kn_RANGES_4, ksl_RANGES_4⟩)
    (kl_RANGES_5 : K.lookup kA_RANGES_5 = some ⟨.type "tuple", kod_RANGES_5, .seq #[.int (0) kt_RANGES_5_0, .int (9) kt_RANGES_5_1] kn_RANGES_5, ksl_RANGES_5⟩)
    (kl_RANGES_6 : K.lookup kA_RANGES_6 = some ⟨.type "tuple", kod_RANGES_6, .seq #[.int (0) kt_RANGES_6_0, .int (9) kt_RANGES_6_1] kn_RANGES_6, ksl_RANGES_6⟩)
    (kl_RANGES_0 : K.lookup kA_RANGES_0 = some ⟨.type "dict", none, .dict #[⟨kh_RANGES_0, .str "face" kt_RANGES_0, .ref kA_RANGES_1⟩, ⟨kh_RANGES_1, .str "size" kt_RANGES_1, .ref kA_RANGES_2⟩, ⟨kh_RANGES_2, .str "wide" kt_RANGES_2, .ref kA_RANGES_3⟩, ⟨kh_RANGES_3, .str "drop" kt_RANGES_3, .ref kA_RANGES_4⟩, ⟨kh_RANGES_4, .str "indent" kt_RANGES_4, .ref kA_RANGES_5⟩, ⟨kh_RANGES_5, .str "before" kt_RANGES_5, .ref kA_RANGES_6⟩] kn_RANGES_0, #[]⟩)
    (kk_RANGES : PySem.W.KeysLit w.params [⟨kh_RANGES_0, .str "face" kt_RANGES_0, .ref kA_RANGES_1⟩, ⟨kh_RANGES_1, .str "size" kt_RANGES_1, .ref kA_RANGES_2⟩, ⟨kh_RANGES_2, .str "wide" kt_RANGES_2, .ref kA_RANGES_3⟩, ⟨kh_RANGES_3, .str "drop" kt_RANGES_3, .ref kA_RANGES_4⟩, ⟨kh_RANGES_4, .str "indent" kt_RANGES_4, .ref kA_RANGES_5⟩, ⟨kh_RANGES_5, .str "before" kt_RANGES_5, .ref kA_RANGES_6⟩])
    (km_RANGES : (kA_RANGES_0 == sysModules) = false)
    (x_BadPattern : PySem.W.nsIn K mainGlobals "BadPattern" = some (some (.ref A_BadPattern)))
    (x_BadValue : PySem.W.nsIn K mainGlobals "BadValue" = some (some (.ref A_BadValue)))
    (x_NoSuchNumber : PySem.W.nsIn K mainGlobals "NoSuchNumber" = some (some (.ref A_NoSuchNumber)))
    (x_TooLarge : PySem.W.nsIn K mainGlobals "TooLarge" = some (some (.ref A_TooLarge)))
    (X1_BadPattern : K.lookup A_BadPattern = some (excClassObj nm_BadPattern qq_BadPattern A_BadPattern N_BadPattern bs_BadPattern bm_BadPattern true sn_BadPattern sb_BadPattern ab_BadPattern co_BadPattern dd_BadPattern m0_BadPattern m1_BadPattern m2_BadPattern m3_BadPattern m5_BadPattern "ValueError.__new__")) (X2_BadPattern : PySem.HandSPX.refsVE bm_BadPattern = true)
    (X3_BadPattern : PySem.W.findIn K (.ref A_BadPattern) "__setattr__" = some (some (.builtin "object.__setattr__"))) (X4_BadPattern : PySem.W.subIn K (.ref A_BadPattern) (.type "BaseException") = some true) (X5_BadPattern : PySem.W.typeIn K (.ref A_BadPattern) = some (.type "type")) (X6_BadPattern : PySem.W.keepIn K (.ref A_BadPattern) = true)
    (X7_BadPattern : PySem.W.findIn K (.ref A_BadPattern) "__init__" = some (some (.ref fI_BadPattern))) (X8_BadPattern : PySem.W.typeIn K (.ref fI_BadPattern) = some (.type "function")) (X9_BadPattern : K.lookup fI_BadPattern = some ⟨oc_BadPattern, od_BadPattern, .func (PySem.W.fnOf "__init__" "BadPattern.__init__" (defArgs s_BadPattern) (defBody s_BadPattern) (defScope s_BadPattern) .none kV_BadPattern dc_BadPattern pm_BadPattern an_BadPattern cd_BadPattern ct_BadPattern), sl_BadPattern⟩) (Xa_BadPattern : PySem.W.codeIn K cd_BadPattern "BadPattern.__init__" = true) (Xb_BadPattern : PySem.W.keepIn K (.ref fI_BadPattern) = true)
    (Y0_BadPattern : PySem.W.findIn K (.ref A_BadPattern) "text" = some none)
    (Xc_BadPattern : PySem.W.findIn K (.ref A_BadPattern) "__getattribute__" = some (some (.builtin "BaseException.__getattribute__"))) (Xd_BadPattern : PySem.W.findIn K (.ref A_BadPattern) "__getattr__" = some none) (Xe_BadPattern : PySem.W.hasDictIn K A_BadPattern = true)
    (Xf_BadPattern : PySem.W.findIn K (.ref A_BadPattern) "__class__" = some (some (.builtin "object.__class__"))) (Xg_BadPattern : PySem.W.specialIn K (.builtin "object.__class__") "__get__" = some (some (.builtin "getset_descriptor.__get__"))) (Xh_BadPattern : PySem.W.takesIn K (.builtin "object.__class__") = some true) (Xi_BadPattern : PySem.W.mroIn K A_BadPattern (.type "object") = some true)
    (X1_BadValue : K.lookup A_BadValue = some (excClassObj nm_BadValue qq_BadValue A_BadValue N_BadValue bs_BadValue bm_BadValue true sn_BadValue sb_BadValue ab_BadValue co_BadValue dd_BadValue m0_BadValue m1_BadValue m2_BadValue m3_BadValue m5_BadValue "ValueError.__new__")) (X2_BadValue : PySem.HandSPX.refsVE bm_BadValue = true)
    (X3_BadValue : PySem.W.findIn K (.ref A_BadValue) "__setattr__" = some (some (.builtin "object.__setattr__"))) (X4_BadValue : PySem.W.subIn K (.ref A_BadValue) (.type "BaseException") = some true) (X5_BadValue : PySem.W.typeIn K (.ref A_BadValue) = some (.type "type")) (X6_BadValue : PySem.W.keepIn K (.ref A_BadValue) = true)
    (X7_BadValue : PySem.W.findIn K (.ref A_BadValue) "__init__" = some (some (.ref fI_BadValue))) (X8_BadValue : PySem.W.typeIn K (.ref fI_BadValue) = some (.type "function")) (X9_BadValue : K.lookup fI_BadValue = some ⟨oc_BadValue, od_BadValue, .func (PySem.W.fnOf "__init__" "BadValue.__init__" (defArgs s_BadValue) (defBody s_BadValue) (defScope s_BadValue) .none kV_BadValue dc_BadValue pm_BadValue an_BadValue cd_BadValue ct_BadValue), sl_BadValue⟩) (Xa_BadValue : PySem.W.codeIn K cd_BadValue "BadValue.__init__" = true) (Xb_BadValue : PySem.W.keepIn K (.ref fI_BadValue) = true)
    (Y0_BadValue : PySem.W.findIn K (.ref A_BadValue) "text" = some none)
    (Xc_BadValue : PySem.W.findIn K (.ref A_BadValue) "__getattribute__" = some (some (.builtin "BaseException.__getattribute__"))) (Xd_BadValue : PySem.W.findIn K (.ref A_BadValue) "__getattr__" = some none) (Xe_BadValue : PySem.W.hasDictIn K A_BadValue = true)
    (Xf_BadValue : PySem.W.findIn K (.ref A_BadValue) "__class__" = some (some (.builtin "object.__class__"))) (Xg_BadValue : PySem.W.specialIn K (.builtin "object.__class__") "__get__" = some (some (.builtin "getset_descriptor.__get__"))) (Xh_BadValue : PySem.W.takesIn K (.builtin "object.__class__") = some true) (Xi_BadValue : PySem.W.mroIn K A_BadValue (.type "object") = some true)
    (X1_NoSuchNumber : K.lookup A_NoSuchNumber = some (excClassObj nm_NoSuchNumber qq_NoSuchNumber A_NoSuchNumber N_NoSuchNumber bs_NoSuchNumber bm_NoSuchNumber true sn_NoSuchNumber sb_NoSuchNumber ab_NoSuchNumber co_NoSuchNumber dd_NoSuchNumber m0_NoSuchNumber m1_NoSuchNumber m2_NoSuchNumber m3_NoSuchNumber m5_NoSuchNumber "ValueError.__new__")) (X2_NoSuchNumber : PySem.HandSPX.refsVE bm_NoSuchNumber = true)
    (X3_NoSuchNumber : PySem.W.findIn K (.ref A_NoSuchNumber) "__setattr__" = some (some (.builtin "object.__setattr__"))) (X4_NoSuchNumber : PySem.W.subIn K (.ref A_NoSuchNumber) (.type "BaseException") = some true) (X5_NoSuchNumber : PySem.W.typeIn K (.ref A_NoSuchNumber) = some (.type "type")) (X6_NoSuchNumber : PySem.W.keepIn K (.ref A_NoSuchNumber) = true)
    (X7_NoSuchNumber : PySem.W.findIn K (.ref A_NoSuchNumber) "__init__" = some (some (.ref fI_NoSuchNumber))) (X8_NoSuchNumber : PySem.W.typeIn K (.ref fI_NoSuchNumber) = some (.type "function")) (X9_NoSuchNumber : K.lookup fI_NoSuchNumber = some ⟨oc_NoSuchNumber, od_NoSuchNumber, .func (PySem.W.fnOf "__init__" "NoSuchNumber.__init__" (defArgs s_NoSuchNumber) (defBody s_NoSuchNumber) (defScope s_NoSuchNumber) .none kV_NoSuchNumber dc_NoSuchNumber pm_NoSuchNumber an_NoSuchNumber cd_NoSuchNumber ct_NoSuchNumber), sl_NoSuchNumber⟩) (Xa_NoSuchNumber : PySem.W.codeIn K cd_NoSuchNumber "NoSuchNumber.__init__" = true) (Xb_NoSuchNumber : PySem.W.keepIn K (.ref fI_NoSuchNumber) = true)
    (Y0_NoSuchNumber : PySem.W.findIn K (.ref A_NoSuchNumber) "number" = some none)
    (Xc_NoSuchNumber : PySem.W.findIn K (.ref A_NoSuchNumber) "__getattribute__" = some (some (.builtin "BaseException.__getattribute__"))) (Xd_NoSuchNumber : PySem.W.findIn K (.ref A_NoSuchNumber) "__getattr__" = some none) (Xe_NoSuchNumber : PySem.W.hasDictIn K A_NoSuchNumber = true)
    (Xf_NoSuchNumber : PySem.W.findIn K (.ref A_NoSuchNumber) "__class__" = some (some (.builtin "object.__class__"))) (Xg_NoSuchNumber : PySem.W.specialIn K (.builtin "object.__class__") "__get__" = some (some (.builtin "getset_descriptor.__get__"))) (Xh_NoSuchNumber : PySem.W.takesIn K (.builtin "object.__class__") = some true) (Xi_NoSuchNumber : PySem.W.mroIn K A_NoSuchNumber (.type "object") = some true)
    (X1_TooLarge : K.lookup A_TooLarge = some (excClassObj nm_TooLarge qq_TooLarge A_TooLarge N_TooLarge bs_TooLarge bm_TooLarge true sn_TooLarge sb_TooLarge ab_TooLarge co_TooLarge dd_TooLarge m0_TooLarge m1_TooLarge m2_TooLarge m3_TooLarge m5_TooLarge "ValueError.__new__")) (X2_TooLarge : PySem.HandSPX.refsVE bm_TooLarge = true)
    (X3_TooLarge : PySem.W.findIn K (.ref A_TooLarge) "__setattr__" = some (some (.builtin "object.__setattr__"))) (X4_TooLarge : PySem.W.subIn K (.ref A_TooLarge) (.type "BaseException") = some true) (X5_TooLarge : PySem.W.typeIn K (.ref A_TooLarge) = some (.type "type")) (X6_TooLarge : PySem.W.keepIn K (.ref A_TooLarge) = true)
    (X7_TooLarge : PySem.W.findIn K (.ref A_TooLarge) "__init__" = some (some (.ref fI_TooLarge))) (X8_TooLarge : PySem.W.typeIn K (.ref fI_TooLarge) = some (.type "function")) (X9_TooLarge : K.lookup fI_TooLarge = some ⟨oc_TooLarge, od_TooLarge, .func (PySem.W.fnOf "__init__" "TooLarge.__init__" (defArgs s_TooLarge) (defBody s_TooLarge) (defScope s_TooLarge) .none kV_TooLarge dc_TooLarge pm_TooLarge an_TooLarge cd_TooLarge ct_TooLarge), sl_TooLarge⟩) (Xa_TooLarge : PySem.W.codeIn K cd_TooLarge "TooLarge.__init__" = true) (Xb_TooLarge : PySem.W.keepIn K (.ref fI_TooLarge) = true)
    (Y0_TooLarge : PySem.W.findIn K (.ref A_TooLarge) "many" = some none)
    (Xc_TooLarge : PySem.W.findIn K (.ref A_TooLarge) "__getattribute__" = some (some (.builtin "BaseException.__getattribute__"))) (Xd_TooLarge : PySem.W.findIn K (.ref A_TooLarge) "__getattr__" = some none) (Xe_TooLarge : PySem.W.hasDictIn K A_TooLarge = true)
    (Xf_TooLarge : PySem.W.findIn K (.ref A_TooLarge) "__class__" = some (some (.builtin "object.__class__"))) (Xg_TooLarge : PySem.W.specialIn K (.builtin "object.__class__") "__get__" = some (some (.builtin "getset_descriptor.__get__"))) (Xh_TooLarge : PySem.W.takesIn K (.builtin "object.__class__") = some true) (Xi_TooLarge : PySem.W.mroIn K A_TooLarge (.type "object") = some true)
    (x_Pattern : PySem.W.nsIn K mainGlobals "Pattern" = some (some (.ref A_Pattern))) (P1_Pattern : PySem.W.plainGet K A_Pattern Str.empty = true) (P2_Pattern : PySem.W.hasDictIn K A_Pattern = true) (P3_Pattern : PySem.W.plainOver K A_Pattern = true) (P4_Pattern : PySem.W.findIn K (.ref A_Pattern) "__setattr__" = some (some (.builtin "object.__setattr__")))
    (x_Points : PySem.W.nsIn K mainGlobals "Points" = some (some (.ref A_Points))) (P1_Points : PySem.W.plainGet K A_Points Str.empty = true) (P2_Points : PySem.W.hasDictIn K A_Points = true) (P3_Points : PySem.W.plainOver K A_Points = true) (P4_Points : PySem.W.findIn K (.ref A_Points) "__setattr__" = some (some (.builtin "object.__setattr__")))
    (x_Rank : PySem.W.nsIn K mainGlobals "Rank" = some (some (.ref A_Rank))) (P1_Rank : PySem.W.plainGet K A_Rank Str.empty = true) (P2_Rank : PySem.W.hasDictIn K A_Rank = true) (P3_Rank : PySem.W.plainOver K A_Rank = true) (P4_Rank : PySem.W.findIn K (.ref A_Rank) "__setattr__" = some (some (.builtin "object.__setattr__")))
    (x_Sheet : PySem.W.nsIn K mainGlobals "Sheet" = some (some (.ref A_Sheet))) (P1_Sheet : PySem.W.plainGet K A_Sheet Str.empty = true) (P2_Sheet : PySem.W.hasDictIn K A_Sheet = true) (P3_Sheet : PySem.W.plainOver K A_Sheet = true) (P4_Sheet : PySem.W.findIn K (.ref A_Sheet) "__setattr__" = some (some (.builtin "object.__setattr__")))
    (M1_Pattern : PySem.W.makesIn K A_Pattern = true) (M2_Pattern : PySem.W.findIn K (.ref A_Pattern) "__init__" = some (some (.ref f5))) (M3_Pattern : PySem.W.isFn K (.ref f5) = true) (M4_Pattern : PySem.W.keepIn K (.ref A_Pattern) = true)
    (M1_Points : PySem.W.makesIn K A_Points = true) (M2_Points : PySem.W.findIn K (.ref A_Points) "__init__" = some (some (.ref f4))) (M3_Points : PySem.W.isFn K (.ref f4) = true) (M4_Points : PySem.W.keepIn K (.ref A_Points) = true)
    (M1_Rank : PySem.W.makesIn K A_Rank = true) (M2_Rank : PySem.W.findIn K (.ref A_Rank) "__init__" = some (some (.ref f8))) (M3_Rank : PySem.W.isFn K (.ref f8) = true) (M4_Rank : PySem.W.keepIn K (.ref A_Rank) = true)
    (M1_Sheet : PySem.W.makesIn K A_Sheet = true) (M2_Sheet : PySem.W.findIn K (.ref A_Sheet) "__init__" = some (some (.ref f21))) (M3_Sheet : PySem.W.isFn K (.ref f21) = true) (M4_Sheet : PySem.W.keepIn K (.ref A_Sheet) = true)
    (N_Pattern_links : PySem.W.findIn K (.ref A_Pattern) "links" = some none)
    (N_Pattern_tests : PySem.W.findIn K (.ref A_Pattern) "tests" = some none)
    (N_Pattern_text : PySem.W.findIn K (.ref A_Pattern) "text" = some none)
    (N_Points_ends : PySem.W.findIn K (.ref A_Points) "ends" = some none)
    (N_Points_linked : PySem.W.findIn K (.ref A_Points) "linked" = some none)
    (N_Points_tests : PySem.W.findIn K (.ref A_Points) "tests" = some none)
    (N_Rank_firm : PySem.W.findIn K (.ref A_Rank) "firm" = some none)
    (N_Rank_index : PySem.W.findIn K (.ref A_Rank) "index" = some none)
    (N_Rank_kinds : PySem.W.findIn K (.ref A_Rank) "kinds" = some none)
    (N_Rank_marks : PySem.W.findIn K (.ref A_Rank) "marks" = some none)
    (N_Sheet_lines : PySem.W.findIn K (.ref A_Sheet) "lines" = some none)
    (N_Sheet_order : PySem.W.findIn K (.ref A_Sheet) "order" = some none)
    (N_Sheet_points : PySem.W.findIn K (.ref A_Sheet) "points" = some none)
    (N_Sheet_rows : PySem.W.findIn K (.ref A_Sheet) "rows" = some none)
    (m1_Rank___eq__ : PySem.W.findIn K (.ref A_Rank) "__eq__" = some (some (.ref f10))) (m2_Rank___eq__ : PySem.W.isFn K (.ref f10) = true)
    (m1_Rank___ge__ : PySem.W.findIn K (.ref A_Rank) "__ge__" = some (some (.ref f15))) (m2_Rank___ge__ : PySem.W.isFn K (.ref f15) = true)
    (m1_Rank___gt__ : PySem.W.findIn K (.ref A_Rank) "__gt__" = some (some (.ref f14))) (m2_Rank___gt__ : PySem.W.isFn K (.ref f14) = true)
    (m1_Rank___le__ : PySem.W.findIn K (.ref A_Rank) "__le__" = some (some (.ref f13))) (m2_Rank___le__ : PySem.W.isFn K (.ref f13) = true)
    (m1_Rank___lt__ : PySem.W.findIn K (.ref A_Rank) "__lt__" = some (some (.ref f12))) (m2_Rank___lt__ : PySem.W.isFn K (.ref f12) = true)
    (m1_Rank___ne__ : PySem.W.findIn K (.ref A_Rank) "__ne__" = some (some (.ref f11))) (m2_Rank___ne__ : PySem.W.isFn K (.ref f11) = true)
    (m1_Rank_parts : PySem.W.findIn K (.ref A_Rank) "parts" = some (some (.ref f9))) (m2_Rank_parts : PySem.W.isFn K (.ref f9) = true)
    (m1_Sheet_rank : PySem.W.findIn K (.ref A_Sheet) "rank" = some (some (.ref f20))) (m2_Sheet_rank : PySem.W.isFn K (.ref f20) = true)
    (m1_Sheet_row : PySem.W.findIn K (.ref A_Sheet) "row" = some (some (.ref f19))) (m2_Sheet_row : PySem.W.isFn K (.ref f19) = true)
    (p1_Pattern_asked : PySem.W.findIn K (.ref A_Pattern) "asked" = some (some (.ref pp_Pattern_asked))) (p2_Pattern_asked : PySem.W.recIn K pp_Pattern_asked "property" = some (.ref f6 :: pq_Pattern_asked)) (p3_Pattern_asked : PySem.W.specialIn K (.ref pp_Pattern_asked) "__get__" = some (some (.builtin "property.__get__"))) (p4_Pattern_asked : PySem.W.takesIn K (.ref pp_Pattern_asked) = some true)
    (p1_Pattern_named : PySem.W.findIn K (.ref A_Pattern) "named" = some (some (.ref pp_Pattern_named))) (p2_Pattern_named : PySem.W.recIn K pp_Pattern_named "property" = some (.ref f7 :: pq_Pattern_named)) (p3_Pattern_named : PySem.W.specialIn K (.ref pp_Pattern_named) "__get__" = some (some (.builtin "property.__get__"))) (p4_Pattern_named : PySem.W.takesIn K (.ref pp_Pattern_named) = some true)
    (nf_Rank : PySem.W.notFirst K A_Rank (.ref A_Rank) = true)
    (I1_Rank : PySem.W.findIn K (.ref A_Rank) "__class__" = some (some (.builtin "object.__class__"))) (I2_Rank : PySem.W.specialIn K (.builtin "object.__class__") "__get__" = some (some (.builtin "getset_descriptor.__get__"))) (I3_Rank : PySem.W.takesIn K (.builtin "object.__class__") = some true) (I4_Rank : PySem.W.mroIn K A_Rank (.type "object") = some true) (Q_Rank_self : PySem.W.kitOne K (.ref A_Rank) (.ref A_Rank) = some true)
    (Q_Rank_NoneType : PySem.W.kitOne K (.type "NoneType") (.ref A_Rank) = some false)
    (Q_Rank_bool : PySem.W.kitOne K (.type "bool") (.ref A_Rank) = some false)
    (Q_Rank_int : PySem.W.kitOne K (.type "int") (.ref A_Rank) = some false)
    (Q_Rank_str : PySem.W.kitOne K (.type "str") (.ref A_Rank) = some false)
    (Q_Rank_list : PySem.W.kitOne K (.type "list") (.ref A_Rank) = some false)
    (Q_Rank_tuple : PySem.W.kitOne K (.type "tuple") (.ref A_Rank) = some false)
    (Q_Rank_dict : PySem.W.kitOne K (.type "dict") (.ref A_Rank) = some false)
    (W_Rank_NoneType : PySem.W.notFirst K A_Rank (.type "NoneType") = true)
    (W_Rank_bool : PySem.W.notFirst K A_Rank (.type "bool") = true)
    (W_Rank_int : PySem.W.notFirst K A_Rank (.type "int") = true)
    (W_Rank_str : PySem.W.notFirst K A_Rank (.type "str") = true)
    (W_Rank_list : PySem.W.notFirst K A_Rank (.type "list") = true)
    (W_Rank_tuple : PySem.W.notFirst K A_Rank (.type "tuple") = true)
    (W_Rank_dict : PySem.W.notFirst K A_Rank (.type "dict") = true)
    (MT_Rank : PySem.W.mroIn K A_Rank (.type "tuple") = some false) :
    ∃ fd : FuncData, (∀ (s : Shared) (v : Value), BindsTo s fd ⟨[v], []⟩ [("_law_script", v)]) ∧ ∀ base : Heap, K.In base → base.Ns mainGlobals mg → FnOk l.prog w K mg base (L2.CX l.prog w) 9 fa fd ["_law_script"] (spLaw K) := by
  have e := hfa.symm.trans (PySem.W.mg_of X G a30)
  cases e
  obtain ⟨T, e1, e2⟩ := txt_mk X G a0 l0 c0 k0 a1 l1 c1 k1 a2 l2 c2 k2 a3 l3 c3 k3 l4 c4 k4 l5 c5 k5 l6 c6 k6 l7 c7 k7 l8 c8 k8 l9 c9 k9 l10 c10 k10 l11 c11 k11 l12 c12 k12 l13 c13 k13 l14 c14 k14 l15 c15 k15 a16 l16 c16 k16 a17 l17 c17 k17 a18 l18 c18 k18 l19 c19 k19 l20 c20 k20 l21 c21 k21 a22 l22 c22 k22 a23 l23 c23 k23 a24 l24 c24 k24 a25 l25 c25 k25 a26 l26 c26 k26 a27 l27 c27 k27 a28 l28 c28 k28 a29 l29 c29 k29 a30 l30 c30 k30 z_NotImplemented z_bool z_enumerate z_int z_isinstance z_len z_list z_range z_tuple z_zip y_DIGITS y_LETTERS y_MOST_ROWS y_MOST_TESTS y_LINKS kl_LINKS_0 kk_LINKS km_LINKS y_RANGES kl_RANGES_1 kl_RANGES_2 kl_RANGES_3 kl_RANGES_4 kl_RANGES_5 kl_RANGES_6 kl_RANGES_0 kk_RANGES km_RANGES x_BadPattern x_BadValue x_NoSuchNumber x_TooLarge X1_BadPattern X2_BadPattern X3_BadPattern X4_BadPattern X5_BadPattern X6_BadPattern X7_BadPattern X8_BadPattern X9_BadPattern Xa_BadPattern Xb_BadPattern Y0_BadPattern Xc_BadPattern Xd_BadPattern Xe_BadPattern Xf_BadPattern Xg_BadPattern Xh_BadPattern Xi_BadPattern X1_BadValue X2_BadValue X3_BadValue X4_BadValue X5_BadValue X6_BadValue X7_BadValue X8_BadValue X9_BadValue Xa_BadValue Xb_BadValue Y0_BadValue Xc_BadValue Xd_BadValue Xe_BadValue Xf_BadValue Xg_BadValue Xh_BadValue Xi_BadValue X1_NoSuchNumber X2_NoSuchNumber X3_NoSuchNumber X4_NoSuchNumber X5_NoSuchNumber X6_NoSuchNumber X7_NoSuchNumber X8_NoSuchNumber X9_NoSuchNumber Xa_NoSuchNumber Xb_NoSuchNumber Y0_NoSuchNumber Xc_NoSuchNumber Xd_NoSuchNumber Xe_NoSuchNumber Xf_NoSuchNumber Xg_NoSuchNumber Xh_NoSuchNumber Xi_NoSuchNumber X1_TooLarge X2_TooLarge X3_TooLarge X4_TooLarge X5_TooLarge X6_TooLarge X7_TooLarge X8_TooLarge X9_TooLarge Xa_TooLarge Xb_TooLarge Y0_TooLarge Xc_TooLarge Xd_TooLarge Xe_TooLarge Xf_TooLarge Xg_TooLarge Xh_TooLarge Xi_TooLarge x_Pattern P1_Pattern P2_Pattern P3_Pattern P4_Pattern x_Points P1_Points P2_Points P3_Points P4_Points x_Rank P1_Rank P2_Rank P3_Rank P4_Rank x_Sheet P1_Sheet P2_Sheet P3_Sheet P4_Sheet M1_Pattern M2_Pattern M3_Pattern M4_Pattern M1_Points M2_Points M3_Points M4_Points M1_Rank M2_Rank M3_Rank M4_Rank M1_Sheet M2_Sheet M3_Sheet M4_Sheet N_Pattern_links N_Pattern_tests N_Pattern_text N_Points_ends N_Points_linked N_Points_tests N_Rank_firm N_Rank_index N_Rank_kinds N_Rank_marks N_Sheet_lines N_Sheet_order N_Sheet_points N_Sheet_rows m1_Rank___eq__ m2_Rank___eq__ m1_Rank___ge__ m2_Rank___ge__ m1_Rank___gt__ m2_Rank___gt__ m1_Rank___le__ m2_Rank___le__ m1_Rank___lt__ m2_Rank___lt__ m1_Rank___ne__ m2_Rank___ne__ m1_Rank_parts m2_Rank_parts m1_Sheet_rank m2_Sheet_rank m1_Sheet_row m2_Sheet_row p1_Pattern_asked p2_Pattern_asked p3_Pattern_asked p4_Pattern_asked p1_Pattern_named p2_Pattern_named p3_Pattern_named p4_Pattern_named nf_Rank I1_Rank I2_Rank I3_Rank I4_Rank Q_Rank_self Q_Rank_NoneType Q_Rank_bool Q_Rank_int Q_Rank_str Q_Rank_list Q_Rank_tuple Q_Rank_dict W_Rank_NoneType W_Rank_bool W_Rank_int W_Rank_str W_Rank_list W_Rank_tuple W_Rank_dict MT_Rank
  refine ⟨PySem.W.fnOf "law" "law" (defArgs s_law) (defBody s_law) (defScope s_law) .none kV30 dc30 pm30 an30 cd30 ct30, fun s v => .of_eq rfl, fun base _ _ => ?_⟩
  have z := ok_end (P := l.prog) (w := w) (base := base) T
  rw [e1, e2] at z
  exact z
end Lk
end S_P_end
section S_P_top
set_option Elab.async false
set_option linter.all false
open PySem PySem.W PyProof.Rows
set_option maxRecDepth 100000 in
set_option maxHeartbeats 0 in
theorem PySem.Challenge.cw_laidforall_k11_ranks_holds : PySem.Challenge.rw_laidforall_k11_ranks.Holds := by
  w_on; o_law; k_head; (case hw => w_witness2)
  k_fill
  refine L2.walk_of (l := PySem.Challenge.rw_laidforall_k11_ranks) (n := 63) (k := 9) (x := "_law_script") (CX := fun w => L2.CX PySem.Challenge.rw_laidforall_k11_ranks.prog w) (sp := fun w => Lk.spLaw _) rfl (by decide) rfl ⟨rfl, by decide, by decide⟩ (fun w h Y => PySem.W.kIn_of Y) ?F (fun _ _ a ns hl _ hS => ⟨a, ns, rfl, hS, hl, fun _ => rfl⟩) (fun _ _ _ _ _ h => Dx.cx_never h)
  case F =>
    intro w mg fa h KX G hmg
    refine' Lk.all_mk KX G hmg ?a0 ?l0 ?c0 ?k0 ?a1 ?l1 ?c1 ?k1 ?a2 ?l2 ?c2 ?k2 ?a3 ?l3 ?c3 ?k3 ?l4 ?c4 ?k4 ?l5 ?c5 ?k5 ?l6 ?c6 ?k6 ?l7 ?c7 ?k7 ?l8 ?c8 ?k8 ?l9 ?c9 ?k9 ?l10 ?c10 ?k10 ?l11 ?c11 ?k11 ?l12 ?c12 ?k12 ?l13 ?c13 ?k13 ?l14 ?c14 ?k14 ?l15 ?c15 ?k15 ?a16 ?l16 ?c16 ?k16 ?a17 ?l17 ?c17 ?k17 ?a18 ?l18 ?c18 ?k18 ?l19 ?c19 ?k19 ?l20 ?c20 ?k20 ?l21 ?c21 ?k21 ?a22 ?l22 ?c22 ?k22 ?a23 ?l23 ?c23 ?k23 ?a24 ?l24 ?c24 ?k24 ?a25 ?l25 ?c25 ?k25 ?a26 ?l26 ?c26 ?k26 ?a27 ?l27 ?c27 ?k27 ?a28 ?l28 ?c28 ?k28 ?a29 ?l29 ?c29 ?k29 ?a30 ?l30 ?c30 ?k30 ?z_NotImplemented ?z_bool ?z_enumerate ?z_int ?z_isinstance ?z_len ?z_list ?z_range ?z_tuple ?z_zip ?y_DIGITS ?y_LETTERS ?y_MOST_ROWS ?y_MOST_TESTS ?y_LINKS ?kl_LINKS_0 ?kk_LINKS ?km_LINKS ?y_RANGES ?kl_RANGES_1 ?kl_RANGES_2 ?kl_RANGES_3 ?kl_RANGES_4 ?kl_RANGES_5 ?kl_RANGES_6 ?kl_RANGES_0 ?kk_RANGES ?km_RANGES ?x_BadPattern ?x_BadValue ?x_NoSuchNumber ?x_TooLarge ?X1_BadPattern ?X2_BadPattern ?X3_BadPattern ?X4_BadPattern ?X5_BadPattern ?X6_BadPattern ?X7_BadPattern ?X8_BadPattern ?X9_BadPattern ?Xa_BadPattern ?Xb_BadPattern ?Y0_BadPattern ?Xc_BadPattern ?Xd_BadPattern ?Xe_BadPattern ?Xf_BadPattern ?Xg_BadPattern ?Xh_BadPattern ?Xi_BadPattern ?X1_BadValue ?X2_BadValue ?X3_BadValue ?X4_BadValue ?X5_BadValue ?X6_BadValue ?X7_BadValue ?X8_BadValue ?X9_BadValue ?Xa_BadValue ?Xb_BadValue ?Y0_BadValue ?Xc_BadValue ?Xd_BadValue ?Xe_BadValue ?Xf_BadValue ?Xg_BadValue ?Xh_BadValue ?Xi_BadValue ?X1_NoSuchNumber ?X2_NoSuchNumber ?X3_NoSuchNumber ?X4_NoSuchNumber ?X5_NoSuchNumber ?X6_NoSuchNumber ?X7_NoSuchNumber ?X8_NoSuchNumber ?X9_NoSuchNumber ?Xa_NoSuchNumber ?Xb_NoSuchNumber ?Y0_NoSuchNumber ?Xc_NoSuchNumber ?Xd_NoSuchNumber ?Xe_NoSuchNumber ?Xf_NoSuchNumber ?Xg_NoSuchNumber ?Xh_NoSuchNumber ?Xi_NoSuchNumber ?X1_TooLarge ?X2_TooLarge ?X3_TooLarge ?X4_TooLarge ?X5_TooLarge ?X6_TooLarge ?X7_TooLarge ?X8_TooLarge ?X9_TooLarge ?Xa_TooLarge ?Xb_TooLarge ?Y0_TooLarge ?Xc_TooLarge ?Xd_TooLarge ?Xe_TooLarge ?Xf_TooLarge ?Xg_TooLarge ?Xh_TooLarge ?Xi_TooLarge ?x_Pattern ?P1_Pattern ?P2_Pattern ?P3_Pattern ?P4_Pattern ?x_Points ?P1_Points ?P2_Points ?P3_Points ?P4_Points ?x_Rank ?P1_Rank ?P2_Rank ?P3_Rank ?P4_Rank ?x_Sheet ?P1_Sheet ?P2_Sheet ?P3_Sheet ?P4_Sheet ?M1_Pattern ?M2_Pattern ?M3_Pattern ?M4_Pattern ?M1_Points ?M2_Points ?M3_Points ?M4_Points ?M1_Rank ?M2_Rank ?M3_Rank ?M4_Rank ?M1_Sheet ?M2_Sheet ?M3_Sheet ?M4_Sheet ?N_Pattern_links ?N_Pattern_tests ?N_Pattern_text ?N_Points_ends ?N_Points_linked ?N_Points_tests ?N_Rank_firm ?N_Rank_index ?N_Rank_kinds ?N_Rank_marks ?N_Sheet_lines ?N_Sheet_order ?N_Sheet_points ?N_Sheet_rows ?m1_Rank___eq__ ?m2_Rank___eq__ ?m1_Rank___ge__ ?m2_Rank___ge__ ?m1_Rank___gt__ ?m2_Rank___gt__ ?m1_Rank___le__ ?m2_Rank___le__ ?m1_Rank___lt__ ?m2_Rank___lt__ ?m1_Rank___ne__ ?m2_Rank___ne__ ?m1_Rank_parts ?m2_Rank_parts ?m1_Sheet_rank ?m2_Sheet_rank ?m1_Sheet_row ?m2_Sheet_row ?p1_Pattern_asked ?p2_Pattern_asked ?p3_Pattern_asked ?p4_Pattern_asked ?p1_Pattern_named ?p2_Pattern_named ?p3_Pattern_named ?p4_Pattern_named ?nf_Rank ?I1_Rank ?I2_Rank ?I3_Rank ?I4_Rank ?Q_Rank_self ?Q_Rank_NoneType ?Q_Rank_bool ?Q_Rank_int ?Q_Rank_str ?Q_Rank_list ?Q_Rank_tuple ?Q_Rank_dict ?W_Rank_NoneType ?W_Rank_bool ?W_Rank_int ?W_Rank_str ?W_Rank_list ?W_Rank_tuple ?W_Rank_dict ?MT_Rank
    (case y_DIGITS => k_is)
    (case y_LETTERS => k_is)
    (case y_MOST_ROWS => k_is)
    (case y_MOST_TESTS => k_is)
    (case y_LINKS => k_is)
    (case y_RANGES => k_is)
    (case x_BadPattern => k_is)
    (case x_BadValue => k_is)
    (case x_NoSuchNumber => k_is)
    (case x_TooLarge => k_is)
    (case x_Pattern => k_is)
    (case x_Points => k_is)
    (case x_Rank => k_is)
    (case x_Sheet => k_is)
    (case kl_LINKS_0 => k_is)
    (case kl_RANGES_0 => k_is)
    (case kl_RANGES_1 => k_is)
    (case kl_RANGES_2 => k_is)
    (case kl_RANGES_3 => k_is)
    (case kl_RANGES_4 => k_is)
    (case kl_RANGES_5 => k_is)
    (case kl_RANGES_6 => k_is)
    (case M2_Pattern => k_is)
    (case M2_Points => k_is)
    (case M2_Rank => k_is)
    (case M2_Sheet => k_is)
    (case m1_Rank___eq__ => k_is)
    (case m1_Rank___ge__ => k_is)
    (case m1_Rank___gt__ => k_is)
    (case m1_Rank___le__ => k_is)
    (case m1_Rank___lt__ => k_is)
    (case m1_Rank___ne__ => k_is)
    (case m1_Rank_parts => k_is)
    (case m1_Sheet_rank => k_is)
    (case m1_Sheet_row => k_is)
    (case p1_Pattern_asked => k_is)
    (case p1_Pattern_named => k_is)
    (case p2_Pattern_asked => k_is)
    (case p2_Pattern_named => k_is)
    (case a0 => k_is)
    (case l0 => k_is)
    (case c0 => k_is)
    (case k0 => k_is)
    (case a1 => k_is)
    (case l1 => k_is)
    (case c1 => k_is)
    (case k1 => k_is)
    (case a2 => k_is)
    (case l2 => k_is)
    (case c2 => k_is)
    (case k2 => k_is)
    (case a3 => k_is)
    (case l3 => k_is)
    (case c3 => k_is)
    (case k3 => k_is)
    (case l4 => k_is)
    (case c4 => k_is)
    (case k4 => k_is)
    (case l5 => k_is)
    (case c5 => k_is)
    (case k5 => k_is)
    (case l6 => k_is)
    (case c6 => k_is)
    (case k6 => k_is)
    (case l7 => k_is)
    (case c7 => k_is)
    (case k7 => k_is)
    (case l8 => k_is)
    (case c8 => k_is)
    (case k8 => k_is)
    (case l9 => k_is)
    (case c9 => k_is)
    (case k9 => k_is)
    (case l10 => k_is)
    (case c10 => k_is)
    (case k10 => k_is)
    (case l11 => k_is)
    (case c11 => k_is)
    (case k11 => k_is)
    (case l12 => k_is)
    (case c12 => k_is)
    (case k12 => k_is)
    (case l13 => k_is)
    (case c13 => k_is)
    (case k13 => k_is)
    (case l14 => k_is)
    (case c14 => k_is)
    (case k14 => k_is)
    (case l15 => k_is)
    (case c15 => k_is)
    (case k15 => k_is)
    (case a16 => k_is)
    (case l16 => k_is)
    (case c16 => k_is)
    (case k16 => k_is)
    (case a17 => k_is)
    (case l17 => k_is)
    (case c17 => k_is)
    (case k17 => k_is)
    (case a18 => k_is)
    (case l18 => k_is)
    (case c18 => k_is)
    (case k18 => k_is)
    (case l19 => k_is)
    (case c19 => k_is)
    (case k19 => k_is)
    (case l20 => k_is)
    (case c20 => k_is)
    (case k20 => k_is)
    (case l21 => k_is)
    (case c21 => k_is)
    (case k21 => k_is)
    (case a22 => k_is)
    (case l22 => k_is)
    (case c22 => k_is)
    (case k22 => k_is)
    (case a23 => k_is)
    (case l23 => k_is)
    (case c23 => k_is)
    (case k23 => k_is)
    (case a24 => k_is)
    (case l24 => k_is)
    (case c24 => k_is)
    (case k24 => k_is)
    (case a25 => k_is)
    (case l25 => k_is)
    (case c25 => k_is)
    (case k25 => k_is)
    (case a26 => k_is)
    (case l26 => k_is)
    (case c26 => k_is)
    (case k26 => k_is)
    (case a27 => k_is)
    (case l27 => k_is)
    (case c27 => k_is)
    (case k27 => k_is)
    (case a28 => k_is)
    (case l28 => k_is)
    (case c28 => k_is)
    (case k28 => k_is)
    (case a29 => k_is)
    (case l29 => k_is)
    (case c29 => k_is)
    (case k29 => k_is)
    (case a30 => k_is)
    (case l30 => k_is)
    (case c30 => k_is)
    (case k30 => k_is)
    (case z_NotImplemented => k_is)
    (case z_bool => k_is)
    (case z_enumerate => k_is)
    (case z_int => k_is)
    (case z_isinstance => k_is)
    (case z_len => k_is)
    (case z_list => k_is)
    (case z_range => k_is)
    (case z_tuple => k_is)
    (case z_zip => k_is)
    (case kk_LINKS => k_keys)
    (case km_LINKS => decide)
    (case kk_RANGES => k_keys)
    (case km_RANGES => decide)
    (case X1_BadPattern => k_is)
    (case X2_BadPattern => decide +kernel)
    (case X3_BadPattern => k_is)
    (case X4_BadPattern => k_is)
    (case X5_BadPattern => k_is)
    (case X6_BadPattern => k_is)
    (case X7_BadPattern => k_is)
    (case X8_BadPattern => k_is)
    (case X9_BadPattern => k_is)
    (case Xa_BadPattern => k_is)
    (case Xb_BadPattern => k_is)
    (case Y0_BadPattern => k_is)
    (case Xc_BadPattern => k_is)
    (case Xd_BadPattern => k_is)
    (case Xe_BadPattern => k_is)
    (case Xf_BadPattern => k_is)
    (case Xg_BadPattern => k_is)
    (case Xh_BadPattern => k_is)
    (case Xi_BadPattern => k_is)
    (case X1_BadValue => k_is)
    (case X2_BadValue => decide +kernel)
    (case X3_BadValue => k_is)
    (case X4_BadValue => k_is)
    (case X5_BadValue => k_is)
    (case X6_BadValue => k_is)
    (case X7_BadValue => k_is)
    (case X8_BadValue => k_is)
    (case X9_BadValue => k_is)
    (case Xa_BadValue => k_is)
    (case Xb_BadValue => k_is)
    (case Y0_BadValue => k_is)
    (case Xc_BadValue => k_is)
    (case Xd_BadValue => k_is)
    (case Xe_BadValue => k_is)
    (case Xf_BadValue => k_is)
    (case Xg_BadValue => k_is)
    (case Xh_BadValue => k_is)
    (case Xi_BadValue => k_is)
    (case X1_NoSuchNumber => k_is)
    (case X2_NoSuchNumber => decide +kernel)
    (case X3_NoSuchNumber => k_is)
    (case X4_NoSuchNumber => k_is)
    (case X5_NoSuchNumber => k_is)
    (case X6_NoSuchNumber => k_is)
    (case X7_NoSuchNumber => k_is)
    (case X8_NoSuchNumber => k_is)
    (case X9_NoSuchNumber => k_is)
    (case Xa_NoSuchNumber => k_is)
    (case Xb_NoSuchNumber => k_is)
    (case Y0_NoSuchNumber => k_is)
    (case Xc_NoSuchNumber => k_is)
    (case Xd_NoSuchNumber => k_is)
    (case Xe_NoSuchNumber => k_is)
    (case Xf_NoSuchNumber => k_is)
    (case Xg_NoSuchNumber => k_is)
    (case Xh_NoSuchNumber => k_is)
    (case Xi_NoSuchNumber => k_is)
    (case X1_TooLarge => k_is)
    (case X2_TooLarge => decide +kernel)
    (case X3_TooLarge => k_is)
    (case X4_TooLarge => k_is)
    (case X5_TooLarge => k_is)
    (case X6_TooLarge => k_is)
    (case X7_TooLarge => k_is)
    (case X8_TooLarge => k_is)
    (case X9_TooLarge => k_is)
    (case Xa_TooLarge => k_is)
    (case Xb_TooLarge => k_is)
    (case Y0_TooLarge => k_is)
    (case Xc_TooLarge => k_is)
    (case Xd_TooLarge => k_is)
    (case Xe_TooLarge => k_is)
    (case Xf_TooLarge => k_is)
    (case Xg_TooLarge => k_is)
    (case Xh_TooLarge => k_is)
    (case Xi_TooLarge => k_is)
    (case P1_Pattern => k_is)
    (case P2_Pattern => k_is)
    (case P3_Pattern => k_is)
    (case P4_Pattern => k_is)
    (case P1_Points => k_is)
    (case P2_Points => k_is)
    (case P3_Points => k_is)
    (case P4_Points => k_is)
    (case P1_Rank => k_is)
    (case P2_Rank => k_is)
    (case P3_Rank => k_is)
    (case P4_Rank => k_is)
    (case P1_Sheet => k_is)
    (case P2_Sheet => k_is)
    (case P3_Sheet => k_is)
    (case P4_Sheet => k_is)
    (case M1_Pattern => k_is)
    (case M3_Pattern => k_is)
    (case M4_Pattern => k_is)
    (case M1_Points => k_is)
    (case M3_Points => k_is)
    (case M4_Points => k_is)
    (case M1_Rank => k_is)
    (case M3_Rank => k_is)
    (case M4_Rank => k_is)
    (case M1_Sheet => k_is)
    (case M3_Sheet => k_is)
    (case M4_Sheet => k_is)
    (case N_Pattern_links => k_is)
    (case N_Pattern_tests => k_is)
    (case N_Pattern_text => k_is)
    (case N_Points_ends => k_is)
    (case N_Points_linked => k_is)
    (case N_Points_tests => k_is)
    (case N_Rank_firm => k_is)
    (case N_Rank_index => k_is)
    (case N_Rank_kinds => k_is)
    (case N_Rank_marks => k_is)
    (case N_Sheet_lines => k_is)
    (case N_Sheet_order => k_is)
    (case N_Sheet_points => k_is)
    (case N_Sheet_rows => k_is)
    (case m2_Rank___eq__ => k_is)
    (case m2_Rank___ge__ => k_is)
    (case m2_Rank___gt__ => k_is)
    (case m2_Rank___le__ => k_is)
    (case m2_Rank___lt__ => k_is)
    (case m2_Rank___ne__ => k_is)
    (case m2_Rank_parts => k_is)
    (case m2_Sheet_rank => k_is)
    (case m2_Sheet_row => k_is)
    (case p3_Pattern_asked => k_is)
    (case p4_Pattern_asked => k_is)
    (case p3_Pattern_named => k_is)
    (case p4_Pattern_named => k_is)
    (case nf_Rank => k_is)
    (case I1_Rank => k_is)
    (case I2_Rank => k_is)
    (case I3_Rank => k_is)
    (case I4_Rank => k_is)
    (case Q_Rank_self => first | k_is | rfl | decide +kernel)
    (case Q_Rank_NoneType => first | k_is | rfl | decide +kernel)
    (case Q_Rank_bool => first | k_is | rfl | decide +kernel)
    (case Q_Rank_int => first | k_is | rfl | decide +kernel)
    (case Q_Rank_str => first | k_is | rfl | decide +kernel)
    (case Q_Rank_list => first | k_is | rfl | decide +kernel)
    (case Q_Rank_tuple => first | k_is | rfl | decide +kernel)
    (case Q_Rank_dict => first | k_is | rfl | decide +kernel)
    (case W_Rank_NoneType => k_is)
    (case W_Rank_bool => k_is)
    (case W_Rank_int => k_is)
    (case W_Rank_str => k_is)
    (case W_Rank_list => k_is)
    (case W_Rank_tuple => k_is)
    (case W_Rank_dict => k_is)
    (case MT_Rank => k_is)
end S_P_top
