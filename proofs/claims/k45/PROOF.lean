import PyProof.Rows.All
import Wide.All
import OpenK.AllK
import Wide.FinOn
import HandS.ForMost
import HandS.ForExc
import HandS.Evl
import HandS.Walk
import HandS.IsInst
import HandS.TupAny
import HandS.Deep
import HandS.Flow
import HandS.Wide
import HandS.Text
import HandS.CallSlots
import HandS.ExcInit
import HandS.ExcField
import HandS.ExcIs
import KE.KExcIs
import HandS.FStr
import HandS.Iter
import HandS.Zip0
import PyProof.EnumMake
import PyProof.Draws
import HandS.Style
import HandS.ClsMeth
import KE.GoesMore
import KE.GoesZip
import PyProof.StrOps2
import PyProof.Rows.MatchSeqLen
import KE.KUnpack
import HandS.NoneIn
import HandS.More
import HandS.Star
import HandS.SlotsOwn
import HandS.OwnIter
import HandS.IterVal
import KE.KCallOwn
import KE.KOwnIter
import HandS.TupLen
import HandS.Property
import HandS.Conv
import HandS.SortRule
import KE.KDictDisplayH
import HandS.Defaults
import HandS.TryOnly
import HandS.SortInts
import HandS.SortOrd
import HandS.DictComp
import KE.DataMinMax
import KE.KDictCopyH
import HandS.ListItems
import PyProof.ListStr
import HandS.HotCalls
import PyProof.InstNe
import HandS.MakeKwOnly
import KE.KTupSum
import PySem.Challenge.RW_laidforall_k45_broken_at
set_option Elab.async false
set_option linter.all false
set_option maxRecDepth 100000
section S_DxA
set_option Elab.async false
set_option linter.all false
set_option maxRecDepth 100000
namespace Dx
open PySem L2
/-- data: what a value stands for, whatever its address -/
inductive D where
  | non
  | bl (b : Bool)
  | int (i : Int)
  | str (s : Str)
  | lst (xs : List D)
  | fz (xs : List D)
  | tup (xs : List D)
  | kt (xs : List D)
  | dk (ks : List Key) (vs : List D)
  | dt (ks : List (List Key)) (vs : List D)
  | obj (c : Str) (ns : List Str) (vs : List D)
  | own (k : Nat)
  | st (k : Nat) (rows : List (List D))
/-- where the classes of the text stand -/
abbrev CM := Str → Option Addr
/-- H' knows all that H knows -/
def Ex (H H' : Hp) : Prop := ∀ a o, H a = some o → H' a = some o
theorem Ex.refl {H : Hp} : Ex H H := fun _ _ h => h
theorem Ex.trans {H H1 H2 : Hp} (a : Ex H H1) (b : Ex H1 H2) : Ex H H2 := fun x o h => b x o (a x o h)
theorem Ex.nn {H H' : Hp} (e : Ex H H') {p : Addr} (h : H' p = none) : H p = none := by
  cases h1 : H p with
  | none => rfl
  | some o => rw [e p o h1] at h; cases h
theorem Ex.new {H : Hp} {p : Addr} {o : HO} (h : H p = none) : Ex H (upd H p o) := fun a u e => by
  rw [upd_ne (ne_of_none e h)]; exact e
theorem Ex.put {H H' : Hp} {p : Addr} {o : HO} (e : Ex H H') (h : H p = none) : Ex H (upd H' p o) := fun a u ha => by
  rw [upd_ne (ne_of_none ha h)]; exact e a u ha
theorem Ex.both {S H : Hp} {p : Addr} {o : HO} (e : Ex S H) : Ex (upd S p o) (upd H p o) := fun a u ha => by
  by_cases h : a = p
  · subst h; rw [upd_same] at ha ⊢; exact ha
  · rw [upd_ne h] at ha ⊢; exact e a u ha
theorem Ex.rd {H H' : Hp} {a : Addr} {u : HO} (e : Ex H H') (h : Rd H a u) : Rd H' a u := by
  rcases h with h | ⟨o, h⟩
  · exact .inl (e a _ h)
  · exact .inr ⟨o, e a _ h⟩
theorem Ex.l {K : PySem.W.Frag} {H H' : Hp} {a : Addr} {xs : List V} (e : Ex H H') (h : SqL K H a xs) : SqL K H' a xs := by
  rcases h with h | h
  · exact .inl (e.rd h)
  · exact .inr h
theorem Ex.t {K : PySem.W.Frag} {H H' : Hp} {a : Addr} {xs : List V} (e : Ex H H') (h : SqT K H a xs) : SqT K H' a xs := by
  rcases h with h | h
  · exact .inl (e.rd h)
  · exact .inr h
mutual
/-- the value v, at the heap S, stands for the data -/
inductive Rp (K : PySem.W.Frag) (cm : CM) (S : Hp) : V → D → Prop
  | non : Rp K cm S .non .non
  | bl (b : Bool) : Rp K cm S (.bl b) (.bl b)
  | int (i : Int) : Rp K cm S (.int i) (.int i)
  | str (x : Str) : Rp K cm S (.str x) (.str x)
  | lst {a : Addr} {xs : List V} {ds : List D} : S a = some (.lst xs) → RpA K cm S xs ds → Rp K cm S (.ref a) (.lst ds)
  | fz {a : Addr} {xs : List V} {ds : List D} : SqL K S a xs → RpA K cm S xs ds → Rp K cm S (.ref a) (.fz ds)
  | tup {a : Addr} {xs : List V} {ds : List D} : S a = some (.tup xs) → RpA K cm S xs ds → Rp K cm S (.ref a) (.tup ds)
  | kt {a : Addr} {xs : List V} {ds : List D} : SqT K S a xs → RpA K cm S xs ds → Rp K cm S (.ref a) (.kt ds)
  | dk {a : Addr} {w : Obj} {kvs : List (Key × V)} {ks : List Key} {ds : List D} : S a = some (.frz w (.dK kvs)) → ks = kvs.map (·.1) → RpA K cm S (kvs.map (·.2)) ds → Rp K cm S (.ref a) (.dk ks ds)
  | dt {a : Addr} {w : Obj} {kvs : List (List Key × V)} {ks : List (List Key)} {ds : List D} : S a = some (.frz w (.dT kvs)) → ks = kvs.map (·.1) → RpA K cm S (kvs.map (·.2)) ds → Rp K cm S (.ref a) (.dt ks ds)
  | obj {a C dx : Addr} {c : Str} {fs : List (Str × V)} {ns : List Str} {ds : List D} : cm c = some C → S a = some (.ins C dx fs) → ns = fs.map (·.1) → RpA K cm S (fs.map (·.2)) ds → Rp K cm S (.ref a) (.obj c ns ds)
inductive RpA (K : PySem.W.Frag) (cm : CM) (S : Hp) : List V → List D → Prop
  | nil : RpA K cm S [] []
  | cons {v : V} {vs : List V} {d : D} {ds : List D} : Rp K cm S v d → RpA K cm S vs ds → RpA K cm S (v :: vs) (d :: ds)
end
section
variable {K : PySem.W.Frag} {cm : CM} {S S' : Hp}
mutual
theorem Rp.mono (e : Ex S S') : ∀ {v : V} {d : D}, Rp K cm S v d → Rp K cm S' v d
  | _, .non, h => by cases h; exact .non
  | _, .bl _, h => by cases h; exact .bl _
  | _, .int _, h => by cases h; exact .int _
  | _, .str _, h => by cases h; exact .str _
  | _, .lst ds, h => by cases h with | lst q r => exact .lst (e _ _ q) (RpA.mono e r)
  | _, .fz ds, h => by cases h with | fz q r => exact .fz (e.l q) (RpA.mono e r)
  | _, .tup ds, h => by cases h with | tup q r => exact .tup (e _ _ q) (RpA.mono e r)
  | _, .kt ds, h => by cases h with | kt q r => exact .kt (e.t q) (RpA.mono e r)
  | _, .dk _ ds, h => by cases h with | dk q k r => exact .dk (e _ _ q) k (RpA.mono e r)
  | _, .dt _ ds, h => by cases h with | dt q k r => exact .dt (e _ _ q) k (RpA.mono e r)
  | _, .obj _ _ ds, h => by cases h with | obj c q k r => exact .obj c (e _ _ q) k (RpA.mono e r)
theorem RpA.mono (e : Ex S S') : ∀ {vs : List V} {ds : List D}, RpA K cm S vs ds → RpA K cm S' vs ds
  | _, [], h => by cases h; exact .nil
  | _, d :: ds, h => by cases h with | cons a r => exact .cons (Rp.mono e a) (RpA.mono e r)
end
theorem RpA.length : ∀ {vs : List V} {ds : List D}, RpA K cm S vs ds → vs.length = ds.length
  | _, _, .nil => rfl
  | _, _, .cons _ r => by simp [RpA.length r]
theorem RpA.get : ∀ {vs : List V} {ds : List D} {i : Nat} {d : D}, RpA K cm S vs ds → ds[i]? = some d → ∃ v, vs[i]? = some v ∧ Rp K cm S v d
  | _, _, _, _, .nil, e => by simp at e
  | _, _, 0, _, .cons h _, e => by simp at e; subst e; exact ⟨_, by simp, h⟩
  | _, _, i + 1, d, .cons _ r, e => by
    obtain ⟨v, h1, h2⟩ := RpA.get (i := i) (d := d) r (by simpa using e)
    exact ⟨v, by simpa using h1, h2⟩
theorem RpA.getV : ∀ {vs : List V} {ds : List D} {i : Nat} {v : V}, RpA K cm S vs ds → vs[i]? = some v → ∃ d, ds[i]? = some d ∧ Rp K cm S v d
  | _, _, _, _, .nil, e => by simp at e
  | _, _, 0, _, .cons h _, e => by simp at e; subst e; exact ⟨_, by simp, h⟩
  | _, _, i + 1, v, .cons _ r, e => by
    obtain ⟨d, h1, h2⟩ := RpA.getV (i := i) (v := v) r (by simpa using e)
    exact ⟨d, by simpa using h1, h2⟩
theorem RpA.app : ∀ {vs us : List V} {ds es : List D}, RpA K cm S vs ds → RpA K cm S us es → RpA K cm S (vs ++ us) (ds ++ es)
  | _, _, _, _, .nil, s => s
  | _, _, _, _, .cons h r, s => .cons h (RpA.app r s)
theorem RpA.one {v : V} {d : D} (h : Rp K cm S v d) : RpA K cm S [v] [d] := .cons h .nil
theorem RpA.take : ∀ {vs : List V} {ds : List D} (n : Nat), RpA K cm S vs ds → RpA K cm S (vs.take n) (ds.take n)
  | _, _, 0, _ => .nil
  | _, _, _ + 1, .nil => .nil
  | _, _, n + 1, .cons h r => .cons h (RpA.take n r)
theorem RpA.drop : ∀ {vs : List V} {ds : List D} (n : Nat), RpA K cm S vs ds → RpA K cm S (vs.drop n) (ds.drop n)
  | _, _, 0, r => r
  | _, _, _ + 1, .nil => .nil
  | _, _, n + 1, .cons _ r => RpA.drop n r
theorem RpA.set {v : V} {d : D} (h : Rp K cm S v d) : ∀ {vs : List V} {ds : List D} (i : Nat), RpA K cm S vs ds → RpA K cm S (vs.set i v) (ds.set i d)
  | _, _, _, .nil => .nil
  | _, _, 0, .cons _ r => .cons h r
  | _, _, i + 1, .cons q r => .cons q (RpA.set h i r)
theorem RpA.reverse : ∀ {vs : List V} {ds : List D}, RpA K cm S vs ds → RpA K cm S vs.reverse ds.reverse
  | _, _, .nil => .nil
  | _, _, .cons h r => by rw [List.reverse_cons, List.reverse_cons]; exact (RpA.reverse r).app (.one h)
end
/-- the content of a mutable object stands for the data, its parts at S -/
inductive RpO (K : PySem.W.Frag) (cm : CM) (S : Hp) : HO → D → Prop
  | lst {xs : List V} {ds : List D} : RpA K cm S xs ds → RpO K cm S (.lst xs) (.lst ds)
  | dk {kvs : List (Key × V)} {ks : List Key} {ds : List D} : ks = kvs.map (·.1) → RpA K cm S (kvs.map (·.2)) ds → RpO K cm S (.dK kvs) (.dk ks ds)
  | dt {kvs : List (List Key × V)} {ks : List (List Key)} {ds : List D} : ks = kvs.map (·.1) → RpA K cm S (kvs.map (·.2)) ds → RpO K cm S (.dT kvs) (.dt ks ds)
  | obj {C dx : Addr} {c : Str} {fs : List (Str × V)} {ns : List Str} {ds : List D} : cm c = some C → ns = fs.map (·.1) → RpA K cm S (fs.map (·.2)) ds → RpO K cm S (.ins C dx fs) (.obj c ns ds)
theorem RpO.mono {K : PySem.W.Frag} {cm : CM} {S S' : Hp} (e : Ex S S') {o : HO} {d : D} (h : RpO K cm S o d) : RpO K cm S' o d := by
  cases h with
  | lst r => exact .lst (r.mono e)
  | dk k r => exact .dk k (r.mono e)
  | dt k r => exact .dt k (r.mono e)
  | obj c k r => exact .obj c k (r.mono e)
def isDct : D → Bool
  | .dk _ _ => true
  | .dt _ _ => true
  | _ => false
theorem RpO.pub {K : PySem.W.Frag} {cm : CM} {S : Hp} {o : HO} {d : D} {p : Addr} (h : RpO K cm S o d) (nd : isDct d = false) (hp : S p = o) : Rp K cm S (.ref p) d := by
  cases h with
  | lst r => exact .lst hp r
  | dk k r => cases nd
  | dt k r => cases nd
  | obj c k r => exact .obj c hp k r
theorem RpO.pubD {K : PySem.W.Frag} {cm : CM} {S : Hp} {o : HO} {d : D} {p : Addr} {w : Obj} (h : RpO K cm S o d) (nd : isDct d = true) (hp : S p = some (.frz w o)) : Rp K cm S (.ref p) d ∧ Mut (some o) := by
  cases h with
  | lst r => cases nd
  | dk k r => exact ⟨.dk hp k r, trivial⟩
  | dt k r => exact ⟨.dt hp k r, trivial⟩
  | obj c k r => cases nd
theorem RpO.mut {K : PySem.W.Frag} {cm : CM} {S : Hp} {o : HO} {d : D} (h : RpO K cm S o d) : Mut (some o) := by
  cases h <;> trivial
/-- not there, or a tuple -/
def Old (o : Option HO) : Prop := o = none ∨ ∃ xs, o = some (.tup xs)
theorem Old.back {H H' : Hp} (e : Ex H H') {a : Addr} (h : Old (H' a)) : Old (H a) := by
  cases q : H a with
  | none => exact .inl rfl
  | some u =>
    rw [e a u q] at h
    rcases h with h | ⟨xs, h⟩
    · cases h
    · cases h; exact .inr ⟨xs, rfl⟩
theorem Old.not {H : Hp} {a : Addr} {o : HO} (h : Old (H a)) (q : H a = some o) : ∃ xs, o = .tup xs := by
  rw [q] at h
  rcases h with h | ⟨xs, h⟩
  · cases h
  · cases h; exact ⟨xs, rfl⟩
/-- S is the part of H that stays; from (S, H) to (S', H') nothing known has changed -/
structure Fwd (S H S' H' : Hp) : Prop where
  s : Ex S S'
  h : Ex H H'
  sub : Ex S' H'
  new : ∀ a o, S' a = some o → S a = none → Old (H a)
theorem Fwd.refl {S H : Hp} (e : Ex S H) : Fwd S H S H := ⟨Ex.refl, Ex.refl, e, fun a o h n => by rw [n] at h; cases h⟩
theorem Fwd.trans {S H S1 H1 S2 H2 : Hp} (a : Fwd S H S1 H1) (b : Fwd S1 H1 S2 H2) : Fwd S H S2 H2 :=
  ⟨a.s.trans b.s, a.h.trans b.h, b.sub, fun p o h n => by
    cases e : S1 p with
    | some u => exact a.new p u e n
    | none => exact (b.new p o h e).back a.h⟩
theorem Fwd.both {S H : Hp} {p : Addr} {o : HO} (e : Ex S H) (n : H p = none) : Fwd S H (upd S p o) (upd H p o) :=
  ⟨Ex.new (e.nn n), Ex.new n, e.both, fun a u h m => by
    by_cases ha : a = p
    · subst ha; exact .inl n
    · rw [upd_ne ha, m] at h; cases h⟩
theorem Fwd.heap {S H : Hp} {p : Addr} {o : HO} (e : Ex S H) (n : H p = none) : Fwd S H S (upd H p o) :=
  ⟨Ex.refl, Ex.new n, e.put (e.nn n), fun a u h m => by rw [m] at h; cases h⟩
/-- a new object known to H' alone becomes one that stays -/
theorem Fwd.pub {S H S' H' : Hp} {p : Addr} {o : HO} (f : Fwd S H S' H') (n : H p = none) (ns : S' p = none) (h : H' p = some o) : Fwd S H (upd S' p o) H' :=
  ⟨f.s.trans (Ex.new ns), f.h, fun a u ha => by
    by_cases hh : a = p
    · subst hh; rw [upd_same] at ha; rw [h]; exact ha
    · rw [upd_ne hh] at ha; exact f.sub a u ha, fun a u ha m => by
    by_cases hh : a = p
    · subst hh; exact .inl n
    · rw [upd_ne hh] at ha; exact f.new a u ha m⟩
inductive Res (α : Type) where
  | ok (a : α)
  | err (c : Str) (ns : List Str) (vs : List D)
  | bad
@[inline] def Res.bind {α β : Type} : Res α → (α → Res β) → Res β
  | .ok a, k => k a
  | .err c ns vs, _ => .err c ns vs
  | .bad, _ => .bad
instance : Monad Res where
  pure := Res.ok
  bind := Res.bind
abbrev Rho := List (Option D)
/-- the end of a statement -/
inductive SR where
  | nx (r : Rho)
  | rt (d : D)
  | bk (r : Rho)
  | ct (r : Rho)
  | er (r : Rho) (c : Str) (ns : List Str) (vs : List D)
  | bad
inductive Ow where
  | v | o | b | w
  | s (pre : List Addr)
  | x (a C dd : Addr)
  | i (a : Addr)
def isO : Ow → Prop
  | .o => True
  | .i _ => True
  | _ => False
structure Cf where
  K : PySem.W.Frag
  cm : CM
  W : WX
  ge : Option (List Ow)
  rm : Bool
/-- a value, or a mutable object read at H whose parts stay -/
def RpB (K : PySem.W.Frag) (cm : CM) (S H : Hp) (v : V) (d : D) : Prop :=
  Rp K cm S v d ∨ ∃ p ho, v = .ref p ∧ H p = some ho ∧ RpO K cm S ho d
section
variable {K : PySem.W.Frag} {cm : CM} {S S' H H' : Hp} {v : V} {d : D}
theorem RpB.mono (h : RpB K cm S H v d) (e : Ex S S') (e' : Ex H H') : RpB K cm S' H' v d := by
  rcases h with h | ⟨p, ho, h1, h2, h3⟩
  · exact .inl (h.mono e)
  · exact .inr ⟨p, ho, h1, e' _ _ h2, h3.mono e⟩
theorem RpB.list {ds : List D} (h : RpB K cm S H v (.lst ds)) (e : Ex S H) : ∃ p xs, v = .ref p ∧ H p = some (.lst xs) ∧ RpA K cm S xs ds := by
  rcases h with h | ⟨p, ho, h1, h2, h3⟩
  · cases h with | lst q r => exact ⟨_, _, rfl, e _ _ q, r⟩
  · cases h3 with | lst r => exact ⟨p, _, h1, h2, r⟩
theorem RpB.int {i : Int} (h : RpB K cm S H v (.int i)) : v = .int i := by
  rcases h with h | ⟨p, ho, h1, h2, h3⟩
  · cases h; rfl
  · cases h3
theorem RpB.bl {b : Bool} (h : RpB K cm S H v (.bl b)) : v = .bl b := by
  rcases h with h | ⟨p, ho, h1, h2, h3⟩
  · cases h; rfl
  · cases h3
theorem RpB.non (h : RpB K cm S H v .non) : v = .non := by
  rcases h with h | ⟨p, ho, h1, h2, h3⟩
  · cases h; rfl
  · cases h3
theorem RpB.str {z : Str} (h : RpB K cm S H v (.str z)) : v = .str z := by
  rcases h with h | ⟨p, ho, h1, h2, h3⟩
  · cases h; rfl
  · cases h3
theorem RpB.tup {ds : List D} (h : RpB K cm S H v (.tup ds)) (e : Ex S H) : ∃ p xs, v = .ref p ∧ SqT K H p xs ∧ RpA K cm S xs ds ∧ S p = some (.tup xs) := by
  rcases h with h | ⟨p, ho, h1, h2, h3⟩
  · cases h with | tup q r => exact ⟨_, _, rfl, .inl (.inl (e _ _ q)), r, q⟩
  · cases h3
theorem RpB.kt {ds : List D} (h : RpB K cm S H v (.kt ds)) (e : Ex S H) : ∃ p xs, v = .ref p ∧ SqT K H p xs ∧ RpA K cm S xs ds ∧ SqT K S p xs := by
  rcases h with h | ⟨p, ho, h1, h2, h3⟩
  · cases h with | kt q r => exact ⟨_, _, rfl, e.t q, r, q⟩
  · cases h3
theorem RpB.fz {ds : List D} (h : RpB K cm S H v (.fz ds)) (e : Ex S H) : ∃ p xs, v = .ref p ∧ SqL K H p xs ∧ RpA K cm S xs ds := by
  rcases h with h | ⟨p, ho, h1, h2, h3⟩
  · cases h with | fz q r => exact ⟨_, _, rfl, e.l q, r⟩
  · cases h3
theorem RpB.dk {ks : List Key} {ds : List D} (h : RpB K cm S H v (.dk ks ds)) (e : Ex S H) : ∃ p kvs, v = .ref p ∧ Rd H p (.dK kvs) ∧ ks = kvs.map (·.1) ∧ RpA K cm S (kvs.map (·.2)) ds := by
  rcases h with h | ⟨p, ho, h1, h2, h3⟩
  · cases h with | dk q k r => exact ⟨_, _, rfl, .inr ⟨_, e _ _ q⟩, k, r⟩
  · cases h3 with | dk k r => exact ⟨p, _, h1, .inl h2, k, r⟩
theorem RpB.dt {ks : List (List Key)} {ds : List D} (h : RpB K cm S H v (.dt ks ds)) (e : Ex S H) : ∃ p kvs, v = .ref p ∧ Rd H p (.dT kvs) ∧ ks = kvs.map (·.1) ∧ RpA K cm S (kvs.map (·.2)) ds := by
  rcases h with h | ⟨p, ho, h1, h2, h3⟩
  · cases h with | dt q k r => exact ⟨_, _, rfl, .inr ⟨_, e _ _ q⟩, k, r⟩
  · cases h3 with | dt k r => exact ⟨p, _, h1, .inl h2, k, r⟩
theorem RpB.obj {n : Str} {ns : List Str} {ds : List D} (h : RpB K cm S H v (.obj n ns ds)) (e : Ex S H) : ∃ p C dx fs, v = .ref p ∧ cm n = some C ∧ H p = some (.ins C dx fs) ∧ ns = fs.map (·.1) ∧ RpA K cm S (fs.map (·.2)) ds := by
  rcases h with h | ⟨p, ho, h1, h2, h3⟩
  · cases h with | obj c q k r => exact ⟨_, _, _, _, rfl, c, e _ _ q, k, r⟩
  · cases h3 with | obj c k r => exact ⟨p, _, _, _, h1, c, h2, k, r⟩
end
/-- a value, or one of the own lists at the places A -/
def RmV (K : PySem.W.Frag) (cm : CM) (A : List Addr) (S : Hp) (v : V) (d : D) : Prop := Rp K cm S v d ∨ ∃ k a, d = .own k ∧ A[k]? = some a ∧ v = .ref a
def RmA (K : PySem.W.Frag) (cm : CM) (A : List Addr) (S : Hp) (vs : List V) (ds : List D) : Prop := vs.length = ds.length ∧ ∀ (i : Nat) v d, vs[i]? = some v → ds[i]? = some d → RmV K cm A S v d
def SlotOk (c : Cf) (H0 S H : Hp) : Ow → V → D → Prop
  | .v, v, d => Rp c.K c.cm S v d
  | .o, v, d => ∃ p ho, v = .ref p ∧ H p = some ho ∧ S p = none ∧ H0 p = none ∧ RpO c.K c.cm S ho d
  | .i a, v, d => v = .ref a ∧ ∃ p ho, v = .ref p ∧ H p = some ho ∧ S p = none ∧ H0 p = none ∧ RpO c.K c.cm S ho d
  | .b, v, d => RpB c.K c.cm S H0 v d
  | .s _, v, d => ∃ k M, d = .st k M
  | .w, v, d => ∃ k, d = .own k
  | .x a C dd, v, d => v = .ref a ∧ ∃ n ns ds fs, d = .obj n ns ds ∧ c.cm n = some C ∧ S dd = some (.xd fs) ∧ ns = fs.map (·.1) ∧ RpA c.K c.cm S (fs.map (·.2)) ds
abbrev kd (G : List Ow) (i : Nat) : Ow := G.getD i .v
/-- the own lists that stand in each other, at the places A -/
structure StoOk (K : PySem.W.Frag) (cm : CM) (H0 : Hp) (G : List Ow) (S H : Hp) (σ : St) (r : Rho) (A : List Addr) : Prop where
  nod : A.Nodup
  out : ∀ a ∈ A, S a = none ∧ H0 a = none ∧ ∃ xs, H a = some (.lst xs)
  own : ∀ i d p, r[i]? = some (some d) → isO (kd G i) → σ[i]? = some (some (.ref p)) → p ∉ A
  st : ∀ i k M P, kd G i = .s P → r[i]? = some (some (.st k M)) → (P <+: A ∧ A.length = M.length) ∧ (∃ a, A[k]? = some a ∧ σ[i]? = some (some (.ref a))) ∧ ∀ (n : Nat) row, M[n]? = some row → ∃ a xs, A[n]? = some a ∧ H a = some (.lst xs) ∧ RmA K cm A S xs row
  al : ∀ i k, kd G i = .w → r[i]? = some (some (.own k)) → ∃ a, A[k]? = some a ∧ σ[i]? = some (some (.ref a))
theorem RmA.mono {K : PySem.W.Frag} {cm : CM} {A : List Addr} {S S' : Hp} {vs : List V} {ds : List D} (h : RmA K cm A S vs ds) (e : Ex S S') : RmA K cm A S' vs ds :=
  ⟨h.1, fun i v d hv hd => (h.2 i v d hv hd).imp (fun z => z.mono e) id⟩
theorem StoOk.sub {K : PySem.W.Frag} {cm : CM} {H0 S H S' H' : Hp} {G G' : List Ow} {σ σ' : St} {r r' : Rho} {A : List Addr} (h : StoOk K cm H0 G S H σ r A) (hS : ∀ a ∈ A, S' a = none) (hH : ∀ a ∈ A, H' a = H a) (eS : Ex S S')
    (ho : ∀ i d p, r'[i]? = some (some d) → isO (kd G' i) → σ'[i]? = some (some (.ref p)) → p ∉ A)
    (hs : ∀ i d, (∃ P, kd G' i = .s P) ∨ kd G' i = .w → r'[i]? = some (some d) → kd G i = kd G' i ∧ r[i]? = some (some d) ∧ σ'[i]? = σ[i]?) : StoOk K cm H0 G' S' H' σ' r' A where
  nod := h.nod
  out := fun a ha => by
    obtain ⟨_, h2, h3⟩ := h.out a ha
    exact ⟨hS a ha, h2, by rw [hH a ha]; exact h3⟩
  own := ho
  st := fun i k M P hi hr => by
    obtain ⟨a1, a2, a3⟩ := hs i _ (.inl ⟨P, hi⟩) hr
    obtain ⟨b1, b2, b3⟩ := h.st i k M P (a1.trans hi) a2
    refine ⟨b1, by rw [a3]; exact b2, fun n row hn => ?_⟩
    obtain ⟨a, xs, c1, c2, c3⟩ := b3 n row hn
    exact ⟨a, xs, c1, by rw [hH a (List.mem_of_getElem? c1)]; exact c2, c3.mono eS⟩
  al := fun i k hi hr => by
    obtain ⟨a1, a2, a3⟩ := hs i _ (.inr hi) hr
    rw [a3]
    exact h.al i k (a1.trans hi) a2
theorem StoOk.go {K : PySem.W.Frag} {cm : CM} {H0 S H S' H' : Hp} {G : List Ow} {σ : St} {r : Rho} {A : List Addr} (h : StoOk K cm H0 G S H σ r A) (f : Fwd S H S' H') : StoOk K cm H0 G S' H' σ r A :=
  h.sub (fun a ha => by
    obtain ⟨h1, _, xs, h3⟩ := h.out a ha
    cases e : S' a with
    | none => rfl
    | some u => obtain ⟨ys, z⟩ := (f.new a u e h1).not h3; cases z) (fun a ha => by
    obtain ⟨_, _, xs, h3⟩ := h.out a ha
    rw [h3]; exact f.h a _ h3) f.s h.own fun i d hi hr => ⟨rfl, hr, rfl⟩
/-- no such lists -/
theorem StoOk.nil {K : PySem.W.Frag} {cm : CM} {H0 S H : Hp} {G : List Ow} {σ : St} {r : Rho} (h : ∀ i d, r[i]? = some (some d) → (∀ P, kd G i ≠ .s P) ∧ kd G i ≠ .w) : StoOk K cm H0 G S H σ r [] where
  nod := List.nodup_nil
  out := fun a ha => by cases ha
  own := fun i d p _ _ _ hp => by cases hp
  st := fun i k M P hi hr => absurd hi ((h i _ hr).1 P)
  al := fun i k hi hr => absurd hi (h i _ hr).2
structure EnvOk (c : Cf) (S0 H0 : Hp) (G : List Ow) (S H : Hp) (σ : St) (r : Rho) : Prop where
  fwd : Fwd S0 H0 S H
  len : σ.length = r.length
  slot : ∀ i d, r[i]? = some (some d) → ∃ v, σ[i]? = some (some v) ∧ SlotOk c H0 S H (kd G i) v d
  sep : ∀ i j d e p, r[i]? = some (some d) → r[j]? = some (some e) → isO (kd G i) → isO (kd G j) → σ[i]? = some (some (.ref p)) → σ[j]? = some (some (.ref p)) → i = j
  sto : ∃ A, StoOk c.K c.cm H0 G S H σ r A
section
variable {c : Cf} {S0 H0 S H S' H' : Hp} {G : List Ow} {σ : St} {r : Rho}
theorem SlotOk.o_of {k : Ow} {v : V} {d : D} (h : SlotOk c H0 S H k v d) (q : isO k) : ∃ p ho, v = .ref p ∧ H p = some ho ∧ S p = none ∧ H0 p = none ∧ RpO c.K c.cm S ho d := by
  cases k with
  | o => exact h
  | i a => exact h.2
  | _ => cases q
theorem SlotOk.mono {k : Ow} {v : V} {d : D} (h : SlotOk c H0 S H k v d) (f : Fwd S H S' H') : SlotOk c H0 S' H' k v d := by
  cases k with
  | v => exact Rp.mono f.s h
  | o =>
    obtain ⟨p, ho, h1, h2, h3, h4, h5⟩ := h
    refine ⟨p, ho, h1, f.h p _ h2, ?_, h4, h5.mono f.s⟩
    cases e : S' p with
    | none => rfl
    | some u => obtain ⟨ys, z⟩ := (f.new p u e h3).not h2; subst z; cases h5
  | i a =>
    obtain ⟨h0, p, ho, h1, h2, h3, h4, h5⟩ := h
    refine ⟨h0, p, ho, h1, f.h p _ h2, ?_, h4, h5.mono f.s⟩
    cases e : S' p with
    | none => rfl
    | some u => obtain ⟨ys, z⟩ := (f.new p u e h3).not h2; subst z; cases h5
  | b => exact RpB.mono h f.s Ex.refl
  | s P => exact h
  | w => exact h
  | x a C dd =>
    obtain ⟨h1, n, ns, ds, fs, h2, h3, h4, h5, h6⟩ := h
    exact ⟨h1, n, ns, ds, fs, h2, h3, f.s _ _ h4, h5, h6.mono f.s⟩
theorem EnvOk.go (e : EnvOk c S0 H0 G S H σ r) (f : Fwd S H S' H') : EnvOk c S0 H0 G S' H' σ r :=
  ⟨e.fwd.trans f, e.len, fun i d h => let ⟨v, h1, h2⟩ := e.slot i d h; ⟨v, h1, h2.mono f⟩, e.sep, let ⟨A, h⟩ := e.sto; ⟨A, h.go f⟩⟩
theorem EnvOk.ex (e : EnvOk c S0 H0 G S H σ r) : Ex S H := e.fwd.sub
theorem kd_set_self (G : List Ow) (i : Nat) : kd (G.set i .v) i = .v := by
  show (G.set i .v).getD i .v = .v
  rw [List.getD_eq_getElem?_getD, List.getElem?_set]
  split
  · split <;> rfl
  · rename_i h; exact absurd rfl h
theorem kd_set_ne {G : List Ow} {i j : Nat} {k : Ow} (h : i ≠ j) : kd (G.set i k) j = kd G j := by
  show (G.set i k).getD j .v = G.getD j .v
  rw [List.getD_eq_getElem?_getD, List.getD_eq_getElem?_getD, List.getElem?_set_ne h]
theorem kd_set_o {G : List Ow} {i : Nat} {k : Ow} (h : i < G.length) : kd (G.set i k) i = k := by
  show (G.set i k).getD i .v = k
  rw [List.getD_eq_getElem?_getD, List.getElem?_set_self h]; rfl
theorem set_some {α : Type} {l : List (Option α)} {i j : Nat} {a : Option α} {b : α} (h : (l.set i a)[j]? = some (some b)) : (i = j ∧ a = some b ∧ i < l.length) ∨ (i ≠ j ∧ l[j]? = some (some b)) := by
  by_cases e : i = j
  · subst e
    rw [List.getElem?_set] at h
    rw [if_pos rfl] at h
    split at h
    · rename_i hl; exact .inl ⟨rfl, Option.some.inj h, hl⟩
    · cases h
  · rw [List.getElem?_set_ne e] at h
    exact .inr ⟨e, h⟩
/-- a slot gets a value -/
theorem EnvOk.setV (e : EnvOk c S0 H0 G S H σ r) {v : V} {d : D} (i : Nat) (h : Rp c.K c.cm S v d) : EnvOk c S0 H0 (G.set i .v) S H (σ.set i (some v)) (r.set i (some d)) := by
  refine ⟨e.fwd, by simp [e.len], fun j b hb => ?_, fun j k b b' p hj hk kj kk sj sk => ?_, let ⟨A, hA⟩ := e.sto; ⟨A, hA.sub (fun a ha => (hA.out a ha).1) (fun _ _ => rfl) Ex.refl (fun j b q hj kj sj => ?_) fun j b kj hj => ?_⟩⟩
  · rcases set_some hb with ⟨rfl, ea, hl⟩ | ⟨ne, hb⟩
    · cases ea
      exact ⟨v, by rw [List.getElem?_set_self (by rw [e.len]; exact hl)], by rw [kd_set_self]; exact h⟩
    · obtain ⟨u, h1, h2⟩ := e.slot j b hb
      exact ⟨u, by rw [List.getElem?_set_ne ne]; exact h1, by rw [kd_set_ne ne]; exact h2⟩
  · have nj : i ≠ j := fun z => by subst z; rw [kd_set_self] at kj; cases kj
    have nk : i ≠ k := fun z => by subst z; rw [kd_set_self] at kk; cases kk
    rw [List.getElem?_set_ne nj] at hj sj
    rw [List.getElem?_set_ne nk] at hk sk
    rw [kd_set_ne nj] at kj
    rw [kd_set_ne nk] at kk
    exact e.sep j k b b' p hj hk kj kk sj sk
  · have nj : i ≠ j := fun z => by subst z; rw [kd_set_self] at kj; cases kj
    rw [List.getElem?_set_ne nj] at hj sj
    rw [kd_set_ne nj] at kj
    exact hA.own j b q hj kj sj
  · have nj : i ≠ j := fun z => by subst z; rw [kd_set_self] at kj; rcases kj with ⟨_, kj⟩ | kj <;> cases kj
    rw [List.getElem?_set_ne nj] at hj
    rw [kd_set_ne nj, List.getElem?_set_ne nj]
    exact ⟨rfl, hj, rfl⟩
/-- a slot gets a new mutable object -/
theorem EnvOk.setO (e : EnvOk c S0 H0 G S H σ r) (f : Fwd S H S' H') {p : Addr} {ho : HO} {d : D} (i : Nat) (hi : i < G.length) (n : H p = none) (ns : S' p = none) (hp : H' p = some ho) (h : RpO c.K c.cm S' ho d) :
    EnvOk c S0 H0 (G.set i .o) S' H' (σ.set i (some (.ref p))) (r.set i (some d)) := by
  have e' := e.go f
  have fresh : ∀ j b, r[j]? = some (some b) → isO (kd G j) → σ[j]? ≠ some (some (.ref p)) := fun j b hb kj sj => by
    obtain ⟨u, h1, h2⟩ := e.slot j b hb
    obtain ⟨q, ho', z1, z2, _⟩ := h2.o_of kj
    rw [sj] at h1; cases h1; cases z1
    rw [n] at z2; cases z2
  refine ⟨e'.fwd, by simp [e.len], fun j b hb => ?_, fun j k b b' q hj hk kj kk sj sk => ?_, let ⟨A, hA⟩ := e.sto; ⟨A, (hA.go f).sub (fun a ha => ((hA.go f).out a ha).1) (fun _ _ => rfl) Ex.refl (fun j b q hj kj sj => ?_) fun j b kj hj => ?_⟩⟩
  · rcases set_some hb with ⟨rfl, ea, hl⟩ | ⟨ne, hb⟩
    · cases ea
      refine ⟨.ref p, by rw [List.getElem?_set_self (by rw [e.len]; exact hl)], ?_⟩
      rw [kd_set_o hi]
      exact ⟨p, ho, rfl, hp, ns, e.fwd.h.nn n, h⟩
    · obtain ⟨u, h1, h2⟩ := e'.slot j b hb
      exact ⟨u, by rw [List.getElem?_set_ne ne]; exact h1, by rw [kd_set_ne ne]; exact h2⟩
  · by_cases nj : i = j
    · by_cases nk : i = k
      · rw [← nj, nk]
      · subst nj
        exfalso
        rcases set_some sj with ⟨_, ea, _⟩ | ⟨ne, _⟩
        · cases ea
          rw [List.getElem?_set_ne nk] at hk sk
          rw [kd_set_ne nk] at kk
          exact fresh k _ hk kk sk
        · exact ne rfl
    · by_cases nk : i = k
      · subst nk
        exfalso
        rcases set_some sk with ⟨_, ea, _⟩ | ⟨ne, _⟩
        · cases ea
          rw [List.getElem?_set_ne nj] at hj sj
          rw [kd_set_ne nj] at kj
          exact fresh j _ hj kj sj
        · exact ne rfl
      · rw [List.getElem?_set_ne nj] at hj sj
        rw [List.getElem?_set_ne nk] at hk sk
        rw [kd_set_ne nj] at kj
        rw [kd_set_ne nk] at kk
        exact e.sep j k b b' q hj hk kj kk sj sk
  · rcases set_some sj with ⟨_, ea, _⟩ | ⟨nj, sj⟩
    · cases ea
      intro ha
      obtain ⟨_, _, xs, h3⟩ := hA.out p ha
      rw [n] at h3; cases h3
    · rw [List.getElem?_set_ne nj] at hj
      rw [kd_set_ne nj] at kj
      exact hA.own j b q hj kj sj
  · have nj : i ≠ j := fun z => by subst z; rw [kd_set_o hi] at kj; rcases kj with ⟨_, kj⟩ | kj <;> cases kj
    rw [List.getElem?_set_ne nj] at hj
    rw [kd_set_ne nj, List.getElem?_set_ne nj]
    exact ⟨rfl, hj, rfl⟩
/-- the own object in slot i: its place -/
theorem EnvOk.ownI (e : EnvOk c S0 H0 G S H σ r) {i : Nat} {d : D} (k : isO (kd G i)) (h : r[i]? = some (some d)) : ∃ p ho, σ[i]? = some (some (.ref p)) ∧ H p = some ho ∧ S p = none ∧ H0 p = none ∧ RpO c.K c.cm S ho d := by
  obtain ⟨v, h1, h2⟩ := e.slot i d h
  obtain ⟨p, ho, rfl, h3⟩ := h2.o_of k
  exact ⟨p, ho, h1, h3⟩
/-- the own object in slot i is changed -/
theorem EnvOk.mutI (e : EnvOk c S0 H0 G S H σ r) {i : Nat} {d d' : D} {p : Addr} {ho' : HO} (k : isO (kd G i)) (h : r[i]? = some (some d)) (hs : σ[i]? = some (some (.ref p))) (h' : RpO c.K c.cm S ho' d') :
    EnvOk c S0 H0 G S (upd H p ho') σ (r.set i (some d')) := by
  obtain ⟨q, ho, s1, s2, s3, s4, s5⟩ := e.ownI k h
  rw [hs] at s1; cases s1
  have hf : Fwd S0 H0 S (upd H p ho') := ⟨e.fwd.s, e.fwd.h.put s4, e.fwd.sub.put s3, e.fwd.new⟩
  refine ⟨hf, by simp [e.len], fun j b hb => ?_, fun j l b b' q hj hk kj kk sj sk => ?_, let ⟨A, hA⟩ := e.sto; ⟨A, hA.sub (fun a ha => (hA.out a ha).1) (fun a ha => upd_ne fun z => hA.own i d p h k hs (z ▸ ha)) Ex.refl (fun j b q hj kj sj => ?_) fun j b kj hj => ?_⟩⟩
  · rcases set_some hb with ⟨rfl, ea, hl⟩ | ⟨ne, hb⟩
    · cases ea
      refine ⟨.ref p, hs, ?_⟩
      cases kk : kd G i with
      | o => exact ⟨p, ho', rfl, upd_same, s3, s4, h'⟩
      | i a =>
        obtain ⟨u, h1, h2⟩ := e.slot i d h
        rw [kk] at h2
        rw [hs] at h1; cases h1
        exact ⟨h2.1, p, ho', rfl, upd_same, s3, s4, h'⟩
      | _ => rw [kk] at k; cases k
    · obtain ⟨u, h1, h2⟩ := e.slot j b hb
      refine ⟨u, h1, ?_⟩
      cases kj : kd G j with
      | v => rw [kj] at h2; exact h2
      | b => rw [kj] at h2; exact h2
      | s P => rw [kj] at h2; exact h2
      | w => rw [kj] at h2; exact h2
      | x a C dd => rw [kj] at h2; exact h2
      | o =>
        rw [kj] at h2
        obtain ⟨q, hq, z1, z2, z3, z4, z5⟩ := h2
        subst z1
        have : q ≠ p := fun z => by subst z; exact ne (e.sep i j d b q h hb k (by rw [kj]; trivial) hs h1)
        exact ⟨q, hq, rfl, by rw [upd_ne this]; exact z2, z3, z4, z5⟩
      | i a =>
        rw [kj] at h2
        obtain ⟨z0, q, hq, z1, z2, z3, z4, z5⟩ := h2
        subst z1
        have : q ≠ p := fun z => by subst z; exact ne (e.sep i j d b q h hb k (by rw [kj]; trivial) hs h1)
        exact ⟨z0, q, hq, rfl, by rw [upd_ne this]; exact z2, z3, z4, z5⟩
  · have un : ∀ m b, (r.set i (some d'))[m]? = some (some b) → ∃ b', r[m]? = some (some b') := fun m b hm => by
      rcases set_some hm with ⟨rfl, _, _⟩ | ⟨_, hm⟩
      · exact ⟨d, h⟩
      · exact ⟨b, hm⟩
    obtain ⟨b1, hj⟩ := un j b hj
    obtain ⟨b2, hk⟩ := un l b' hk
    exact e.sep j l b1 b2 q hj hk kj kk sj sk
  · rcases set_some hj with ⟨nj, _, _⟩ | ⟨_, hj⟩
    · subst nj
      exact hA.own i d q h kj sj
    · exact hA.own j b q hj kj sj
  · rcases set_some hj with ⟨nj, _, _⟩ | ⟨_, hj⟩
    · subst nj
      rcases kj with ⟨_, kj⟩ | kj <;> (rw [kj] at k; cases k)
    · exact ⟨rfl, hj, rfl⟩
theorem isO_o {k : Ow} (h : k = .o) : isO k := by rw [h]; trivial
theorem EnvOk.own (e : EnvOk c S0 H0 G S H σ r) {i : Nat} {d : D} (k : kd G i = .o) (h : r[i]? = some (some d)) : ∃ p ho, σ[i]? = some (some (.ref p)) ∧ H p = some ho ∧ S p = none ∧ H0 p = none ∧ RpO c.K c.cm S ho d := e.ownI (isO_o k) h
theorem EnvOk.mut (e : EnvOk c S0 H0 G S H σ r) {i : Nat} {d d' : D} {p : Addr} {ho' : HO} (k : kd G i = .o) (h : r[i]? = some (some d)) (hs : σ[i]? = some (some (.ref p))) (h' : RpO c.K c.cm S ho' d') :
    EnvOk c S0 H0 G S (upd H p ho') σ (r.set i (some d')) := e.mutI (isO_o k) h hs h'
theorem StoOk.un {A : List Addr} (hA : StoOk c.K c.cm H0 G S H σ r A) (i : Nat) (hk : kd G i = .o ∨ kd G i = .v) (hS : ∀ a ∈ A, S' a = none) (eS : Ex S S') : StoOk c.K c.cm H0 (G.set i .v) S' H σ r A :=
  hA.sub hS (fun _ _ => rfl) eS (fun j b q hj kj sj => by
    have nj : i ≠ j := fun z => by subst z; rw [kd_set_self] at kj; cases kj
    rw [kd_set_ne nj] at kj
    exact hA.own j b q hj kj sj) fun j b kj hj => by
    have nj : i ≠ j := fun z => by subst z; rw [kd_set_self] at kj; rcases kj with ⟨_, kj⟩ | kj <;> cases kj
    rw [kd_set_ne nj]
    exact ⟨rfl, hj, rfl⟩
theorem EnvOk.sto_un (e : EnvOk c S0 H0 G S H σ r) (i : Nat) (hk : kd G i = .o ∨ kd G i = .v) : ∃ A, StoOk c.K c.cm H0 (G.set i .v) S H σ r A :=
  let ⟨A, hA⟩ := e.sto
  ⟨A, hA.un i hk (fun a ha => (hA.out a ha).1) Ex.refl⟩
/-- the own object in slot i becomes a value, as ho2 -/
theorem EnvOk.pubG (e : EnvOk c S0 H0 G S H σ r) (i : Nat) (k : kd G i = .o) {d : D} (h : r[i]? = some (some d)) {p : Addr} {ho ho2 : HO} (s1 : σ[i]? = some (some (.ref p))) (s2 : H p = some ho) (s3 : S p = none) (s4 : H0 p = none) (hrp : Rp c.K c.cm (upd S p ho2) (.ref p) d) :
    EnvOk c S0 H0 (G.set i .v) (upd S p ho2) (upd H p ho2) σ r := by
  have hk : kd G i = .o ∨ kd G i = .v := .inl k
  have ex : Ex S (upd S p ho2) := Ex.new s3
  refine ⟨⟨e.fwd.s.trans ex, e.fwd.h.put s4, e.fwd.sub.both, fun a u ha m => ?_⟩, e.len, fun j b hb => ?_, fun j l b b' q hj hk kj kk sj sk => ?_, let ⟨A, hA⟩ := e.sto; ⟨A, ?_⟩⟩
  · by_cases hh : a = p
    · subst hh; exact .inl s4
    · rw [upd_ne hh] at ha; exact e.fwd.new a u ha m
  · by_cases ne : i = j
    · subst ne
      rw [h] at hb; cases hb
      refine ⟨.ref p, s1, ?_⟩
      rw [kd_set_self]
      exact hrp
    · obtain ⟨u, h1, h2⟩ := e.slot j b hb
      refine ⟨u, h1, ?_⟩
      rw [kd_set_ne ne]
      cases kj : kd G j with
      | v => rw [kj] at h2; exact Rp.mono ex h2
      | b => rw [kj] at h2; exact RpB.mono h2 ex Ex.refl
      | s P => rw [kj] at h2; exact h2
      | w => rw [kj] at h2; exact h2
      | x a C dd =>
        rw [kj] at h2
        obtain ⟨y1, n, ns, ds, fs, y2, y3, y4, y5, y6⟩ := h2
        exact ⟨y1, n, ns, ds, fs, y2, y3, ex _ _ y4, y5, y6.mono ex⟩
      | o =>
        rw [kj] at h2
        obtain ⟨q, hq, z1, z2, z3, z4, z5⟩ := h2
        subst z1
        have : q ≠ p := fun z => by subst z; exact ne (e.sep i j d b q h hb (isO_o k) (isO_o kj) s1 h1)
        exact ⟨q, hq, rfl, by rw [upd_ne this]; exact z2, by rw [upd_ne this]; exact z3, z4, z5.mono ex⟩
      | i a =>
        rw [kj] at h2
        obtain ⟨z0, q, hq, z1, z2, z3, z4, z5⟩ := h2
        subst z1
        have : q ≠ p := fun z => by subst z; exact ne (e.sep i j d b q h hb (isO_o k) (by rw [kj]; trivial) s1 h1)
        exact ⟨z0, q, hq, rfl, by rw [upd_ne this]; exact z2, by rw [upd_ne this]; exact z3, z4, z5.mono ex⟩
  · have nj : i ≠ j := fun z => by subst z; rw [kd_set_self] at kj; cases kj
    have nl : i ≠ l := fun z => by subst z; rw [kd_set_self] at kk; cases kk
    rw [kd_set_ne nj] at kj
    rw [kd_set_ne nl] at kk
    exact e.sep j l b b' q hj hk kj kk sj sk
  · have np : ∀ a ∈ A, a ≠ p := fun a ha z => hA.own i d p h (isO_o k) s1 (z ▸ ha)
    refine hA.sub (fun a ha => by rw [upd_ne (np a ha)]; exact (hA.out a ha).1) (fun a ha => upd_ne (np a ha)) ex (fun j b q hj kj sj => ?_) fun j b kj hj => ?_
    · have nj : i ≠ j := fun z => by subst z; rw [kd_set_self] at kj; cases kj
      rw [kd_set_ne nj] at kj
      exact hA.own j b q hj kj sj
    · have nj : i ≠ j := fun z => by subst z; rw [kd_set_self] at kj; rcases kj with ⟨_, kj⟩ | kj <;> cases kj
      rw [kd_set_ne nj]
      exact ⟨rfl, hj, rfl⟩
theorem upd_eq {H : Hp} {p : Addr} {o : HO} (h : H p = some o) : upd H p o = H := by
  funext a
  by_cases e : a = p
  · rw [e, upd_same, h]
  · rw [upd_ne e]
/-- an own dict becomes a value: it is locked -/
theorem EnvOk.pubD (e : EnvOk c S0 H0 G S H σ r) (i : Nat) (k : kd G i = .o) {d : D} (h : r[i]? = some (some d)) (hd : isDct d = true) : ∃ p u, H p = some u ∧ Mut (some u) ∧ ∀ w, ∃ S', EnvOk c S0 H0 (G.set i .v) S' (upd H p (.frz w u)) σ r := by
  obtain ⟨p, ho, s1, s2, s3, s4, s5⟩ := e.own k h
  exact ⟨p, ho, s2, s5.mut, fun w => ⟨_, e.pubG i k h s1 s2 s3 s4 ((s5.mono (Ex.new s3)).pubD hd upd_same).1⟩⟩
/-- the own object in slot i becomes a value -/
theorem EnvOk.pub (e : EnvOk c S0 H0 G S H σ r) (i : Nat) (hk : kd G i = .o ∨ kd G i = .v) (nd : ∀ d, r[i]? = some (some d) → isDct d = false) : ∃ S', EnvOk c S0 H0 (G.set i .v) S' H σ r := by
  by_cases k : kd G i = .o
  · cases h : r[i]? with
    | none =>
      refine ⟨S, e.fwd, e.len, fun j b hb => ?_, fun j l b b' q hj hk kj kk sj sk => ?_, e.sto_un i hk⟩
      · have ne : i ≠ j := fun z => by subst z; rw [h] at hb; cases hb
        obtain ⟨u, h1, h2⟩ := e.slot j b hb
        exact ⟨u, h1, by rw [kd_set_ne ne]; exact h2⟩
      · have nj : i ≠ j := fun z => by subst z; rw [h] at hj; cases hj
        have nl : i ≠ l := fun z => by subst z; rw [h] at hk; cases hk
        rw [kd_set_ne nj] at kj
        rw [kd_set_ne nl] at kk
        exact e.sep j l b b' q hj hk kj kk sj sk
    | some od =>
      cases od with
      | none =>
        refine ⟨S, e.fwd, e.len, fun j b hb => ?_, fun j l b b' q hj hk kj kk sj sk => ?_, e.sto_un i hk⟩
        · have ne : i ≠ j := fun z => by subst z; rw [h] at hb; cases hb
          obtain ⟨u, h1, h2⟩ := e.slot j b hb
          exact ⟨u, h1, by rw [kd_set_ne ne]; exact h2⟩
        · have nj : i ≠ j := fun z => by subst z; rw [h] at hj; cases hj
          have nl : i ≠ l := fun z => by subst z; rw [h] at hk; cases hk
          rw [kd_set_ne nj] at kj
          rw [kd_set_ne nl] at kk
          exact e.sep j l b b' q hj hk kj kk sj sk
      | some d =>
        obtain ⟨p, ho, s1, s2, s3, s4, s5⟩ := e.own k h
        have := e.pubG i k h s1 s2 s3 s4 (ho2 := ho) ((s5.mono (Ex.new s3)).pub (nd d h) upd_same)
        rw [upd_eq s2] at this
        exact ⟨_, this⟩
  · have k' : kd G i = .v := hk.resolve_left k
    have all : ∀ j, kd (G.set i .v) j = kd G j := fun j => by
      by_cases ne : i = j
      · subst ne; rw [kd_set_self, k']
      · exact kd_set_ne ne
    exact ⟨S, e.fwd, e.len, fun j b hb => by rw [all]; exact e.slot j b hb, fun j l b b' q hj hk kj kk sj sk => e.sep j l b b' q hj hk ((all j) ▸ kj) ((all l) ▸ kk) sj sk, e.sto_un i hk⟩
end
end Dx
end S_DxA
section S_DxB
set_option Elab.async false
set_option linter.all false
set_option maxRecDepth 100000
set_option maxHeartbeats 2000000
namespace Dx
open PySem L2
/-- what is wanted behind a result, from (S, H) on -/
def PostG (c : Cf) (σ : St) (S H : Hp) {α : Type} (r : Res α) (k : α → Hp → Hp → Prop) : Prop :=
  match r with
  | .ok a => ∀ S' H', Fwd S H S' H' → k a S' H'
  | .err n ns vs => ∀ C dd S' H' fs, c.cm n = some C → Fwd S H S' H' → S' dd = some (.xd fs) → ns = fs.map (·.1) → RpA c.K c.cm S' (fs.map (·.2)) vs → c.W (.ref C) (some dd) σ H'
  | .bad => False
section
variable {c : Cf} {σ : St} {S H S1 H1 : Hp} {α β : Type} {r : Res α} {k k' : α → Hp → Hp → Prop}
theorem PostG.mono (h : PostG c σ S H r k) (f : Fwd S H S1 H1) : PostG c σ S1 H1 r k := by
  cases r with
  | ok a => exact fun S' H' g => h S' H' (f.trans g)
  | err n ns vs => exact fun C dd S' H' fs h1 g h2 h3 h4 => h C dd S' H' fs h1 (f.trans g) h2 h3 h4
  | bad => exact h
theorem PostG.imp (h : PostG c σ S H r k) (hk : ∀ a S' H', Fwd S H S' H' → k a S' H' → k' a S' H') : PostG c σ S H r k' := by
  cases r with
  | ok a => exact fun S' H' g => hk a S' H' g (h S' H' g)
  | err n ns vs => exact h
  | bad => exact h
theorem PostG.unbind {g : α → Res β} {k : β → Hp → Hp → Prop} (h : PostG c σ S H (r.bind g) k) : PostG c σ S H r fun a S' H' => PostG c σ S' H' (g a) k := by
  cases r with
  | ok a => exact fun S' H' f => PostG.mono (show PostG c σ S H (g a) k from h) f
  | err n ns vs => exact h
  | bad => exact h
end
/-- x where p holds; nothing is reckoned for it -/
noncomputable def guard {α : Type} (p : Prop) (x : Res α) : Res α := @ite _ p (Classical.propDecidable p) x .bad
theorem guard_pos {α : Type} {p : Prop} {x : Res α} (h : p) : guard p x = x := by unfold guard; exact if_pos h
theorem PostG.gd {c : Cf} {σ : St} {S H : Hp} {α : Type} {p : Prop} {x : Res α} {k : α → Hp → Hp → Prop} (h : PostG c σ S H (guard p x) k) : p ∧ PostG c σ S H x k := by
  by_cases hp : p
  · rw [guard_pos hp] at h; exact ⟨hp, h⟩
  · unfold guard at h; rw [if_neg hp] at h; exact h.elim
/-- a mode: what the heap ahead, the heaps behind, the machine's result and the data have in common -/
abbrev Md (β α : Type) := Hp → Hp → Hp → β → α → Prop
class Anti {β α : Type} (R : Md β α) : Prop where
  anti : ∀ {H H2 S' H' : Hp} {b : β} {a : α}, Ex H H2 → R H2 S' H' b a → R H S' H' b a
def mV (c : Cf) : Md V D := fun _ S' _ v d => Rp c.K c.cm S' v d
def mB (c : Cf) : Md V D := fun _ S' H' v d => RpB c.K c.cm S' H' v d
def mO (c : Cf) : Md V D := fun H S' H' v d => ∃ p ho, v = .ref p ∧ H p = none ∧ S' p = none ∧ H' p = some ho ∧ RpO c.K c.cm S' ho d
def mA (c : Cf) : Md (List V) (List D) := fun _ S' _ vs ds => RpA c.K c.cm S' vs ds
def mE (α : Type) : Md α α := fun _ _ _ b a => b = a
instance {c : Cf} : Anti (mV c) := ⟨fun _ h => h⟩
instance {c : Cf} : Anti (mB c) := ⟨fun _ h => h⟩
instance {c : Cf} : Anti (mA c) := ⟨fun _ h => h⟩
instance {α : Type} : Anti (mE α) := ⟨fun _ h => h⟩
instance {c : Cf} : Anti (mO c) := ⟨fun e ⟨p, ho, h1, h2, h3⟩ => ⟨p, ho, h1, e.nn h2, h3⟩⟩
/-- the reading of a piece whose data is f -/
def rd (c : Cf) (G : List Ow) {α β : Type} (f : Rho → Res α) (R : Md β α) : St → Hp → (β → Hp → Prop) → Prop := fun σ H Q =>
  ∃ S0 H0 S r, EnvOk c S0 H0 G S H σ r ∧ PostG c σ S H (f r) fun a S' H' => ∀ b, R H S' H' b a → Q b H'
abbrev tV (c : Cf) (G : List Ow) (f : Rho → Res D) : TE := rd c G f (mV c)
abbrev tR (c : Cf) (G : List Ow) (f : Rho → Res D) : TE := rd c G f (mB c)
abbrev tO (c : Cf) (G : List Ow) (f : Rho → Res D) : TE := rd c G f (mO c)
abbrev tT (c : Cf) (G : List Ow) (f : Rho → Res Bool) : TT := rd c G f (mE Bool)
abbrev tAs (c : Cf) (G : List Ow) (f : Rho → Res (List D)) : TA := rd c G f (mA c)
theorem pe_imp {X : Cx} {e : Expr} {t t' : TE} (h : PE X e t) (k : ∀ σ H Q, t' σ H Q → t σ H Q) : PE X e t' := ⟨fun pins s σ H Q I q => h.run pins s σ H Q I (k σ H Q q)⟩
theorem pt_imp {X : Cx} {e : Expr} {t t' : TT} (h : PT X e t) (k : ∀ σ H Q, t' σ H Q → t σ H Q) : PT X e t' := ⟨fun pins s σ H Q I q => h.run pins s σ H Q I (k σ H Q q)⟩
theorem pa_imp {X : Cx} {es : List Expr} {t t' : TA} (h : PA X es t) (k : ∀ σ H Q, t' σ H Q → t σ H Q) : PA X es t' := ⟨fun p pins s σ H Q I q => h.run p pins s σ H Q I (k σ H Q q)⟩
theorem ps_imp {X : Cx} {st : Stmt} {t t' : TS} (h : PS X st t) (k : ∀ E σ H, t' E σ H → t E σ H) : PS X st t' := ⟨fun pins s σ H E I q => h.run pins s σ H E I (k E σ H q)⟩
theorem pss_imp {X : Cx} {st : List Stmt} {t t' : TS} (h : PSs X st t) (k : ∀ E σ H, t' E σ H → t E σ H) : PSs X st t' := ⟨fun pins s σ H E I q => h.run pins s σ H E I (k E σ H q)⟩
section
variable {c : Cf} {G : List Ow} {σ : St} {S0 H0 S H : Hp} {r : Rho} {α β γ : Type}
/-- one piece, then what follows -/
theorem rd_seq {f : Rho → Res α} {R : Md β α} (e : EnvOk c S0 H0 G S H σ r) {g : α → Res γ} {k : γ → Hp → Hp → Prop} (p : PostG c σ S H ((f r).bind g) k) {Q : β → Hp → Prop}
    (h : ∀ a b S' H', Fwd S H S' H' → EnvOk c S0 H0 G S' H' σ r → R H S' H' b a → PostG c σ S' H' (g a) k → Q b H') : rd c G f R σ H Q :=
  ⟨S0, H0, S, r, e, p.unbind.imp fun a S' H' fw hk b hb => h a b S' H' fw (e.go fw) hb hk⟩
theorem PostG.anti {R : Md β α} [Anti R] {H2 : Hp} {x : Res α} {Q : β → Hp → Prop} (e : Ex H H2) {S2 : Hp} (p : PostG c σ S2 H2 x fun a S' H' => ∀ b, R H S' H' b a → Q b H') :
    PostG c σ S2 H2 x fun a S' H' => ∀ b, R H2 S' H' b a → Q b H' := p.imp fun _ _ _ _ hk b hb => hk b (Anti.anti e hb)
/-- the wish behind a value that is there -/
theorem PostG.here {R : Md β α} {a : α} {b : β} {Q : β → Hp → Prop} (p : PostG c σ S H (.ok a) fun a S' H' => ∀ b, R H S' H' b a → Q b H') (e : Ex S H) (h : R H S H b a) : Q b H := p S H (Fwd.refl e) b h
theorem PostG.go {a : α} {k : α → Hp → Hp → Prop} (p : PostG c σ S H (.ok a) k) (e : Ex S H) : k a S H := p S H (Fwd.refl e)
/-- .. behind a new object that stays; that is kept own -/
theorem PostG.laid {d : D} {o : HO} {q : Addr} {Q : VK} (p : PostG c σ S H (.ok d) fun a S' H' => ∀ b, mV c H S' H' b a → Q b H') (e : Ex S H) (n : H q = none) (h : Rp c.K c.cm (upd S q o) (.ref q) d) : Q (.ref q) (upd H q o) :=
  p _ _ (Fwd.both e n) _ h
theorem PostG.kept {d : D} {o : HO} {q : Addr} {Q : VK} (p : PostG c σ S H (.ok d) fun a S' H' => ∀ b, mO c H S' H' b a → Q b H') (e : Ex S H) (n : H q = none) (h : RpO c.K c.cm S o d) : Q (.ref q) (upd H q o) :=
  p _ _ (Fwd.heap e n) _ ⟨q, o, rfl, n, e.nn n, upd_same, h⟩
end
/-- .. or so as soon as a told object is locked -/
def Lo (Q : Hp → Prop) (H : Hp) : Prop := Q H ∨ ∃ p u, H p = some u ∧ Mut (some u) ∧ ∀ w, Q (upd H p (.frz w u))
theorem Fwd.pubF {S H S' H' : Hp} {p : Addr} {o : HO} (f : Fwd S H S' H') (n : H p = none) (ns : S' p = none) : Fwd S H (upd S' p o) (upd H' p o) :=
  ⟨f.s.trans (Ex.new ns), f.h.put n, f.sub.both, fun a u ha m => by
    by_cases hh : a = p
    · subst hh; exact .inl n
    · rw [upd_ne hh] at ha; exact f.new a u ha m⟩
section
variable {X : Cx}
theorem pe_lock {e : Expr} {t t2 : TE} (h : PE X e t) (k : ∀ σ H Q, t2 σ H Q → t σ H fun v H' => Lo (Q v) H') : PE X e t2 := ⟨fun pins s σ H Q I q => thn (h.run pins s σ H _ I (k _ _ _ q)) fun u s' ⟨v, H', I', r, z⟩ => by
  rcases z with z | ⟨p, ho, h1, h2, z⟩
  · exact ⟨v, H', I', r, z⟩
  · obtain ⟨od, I2⟩ := I'.lock h1 h2
    exact ⟨v, _, I2, r, z od⟩⟩
theorem pss_lock {st : List Stmt} {t t2 : TS} (h : PSs X st t) (k : ∀ E σ H, t2 E σ H → Lo (fun H => t E σ H) H) : PSs X st t2 := ⟨fun pins s σ H E I q => by
  rcases k _ _ _ q with z | ⟨p, ho, h1, h2, z⟩
  · exact h.run pins s σ H E I z
  · obtain ⟨od, I2⟩ := I.lock h1 h2
    exact h.run pins s σ _ E I2 (z od)⟩
theorem pss_lockE {st : List Stmt} {t t2 : TS} (h : PSs X st t) (k : ∀ (E : Ends) σ H, t2 E σ H → t { E with nx := fun σ H => Lo (E.nx σ) H } σ H) : PSs X st t2 := ⟨fun pins s σ H E I q => thn (h.run pins s σ H _ I (k _ _ _ q)) fun f s' z => by
  cases f with
  | next =>
    obtain ⟨σ', H', I', z⟩ := z
    rcases z with z | ⟨p, ho, h1, h2, z⟩
    · exact ⟨σ', H', I', z⟩
    · obtain ⟨od, I2⟩ := I'.lock h1 h2
      exact ⟨σ', _, I2, z od⟩
  | brk => exact z
  | cont => exact z
  | ret u => exact z⟩
end
section
variable {X : Cx} {c : Cf} {G : List Ow} {f f1 f2 : Rho → Res D} {a b e : Expr} {pos : Pos}
theorem de_pub (h : PE X e (tO c G f)) : PE X e (tV c G f) := pe_lock h fun σ H Q ⟨S0, H0, S, r, ok, p⟩ => ⟨S0, H0, S, r, ok, by
  revert p
  cases f r with
  | ok d =>
    intro p S' H' fw b hb
    obtain ⟨q, ho, rfl, h1, h2, h3, h4⟩ := hb
    cases hd : isDct d with
    | false =>
      have fw' := fw.pub h1 h2 h3
      exact .inl (p _ H' fw' _ ((h4.mono (Ex.new h2)).pub hd upd_same))
    | true => exact .inr ⟨q, ho, h3, h4.mut, fun w => p _ _ (fw.pubF h1 h2) _ ((h4.mono (Ex.new h2)).pubD hd upd_same).1⟩
  | err n ns vs => exact id
  | bad => exact id⟩
theorem db_of (h : PE X e (tV c G f)) : PE X e (tR c G f) := pe_imp h fun σ H Q ⟨S0, H0, S, r, ok, p⟩ => ⟨S0, H0, S, r, ok, p.imp fun _ _ _ _ hk b hb => hk b (.inl hb)⟩
theorem db_own (h : PE X e (tO c G f)) : PE X e (tR c G f) := db_of (de_pub h)
def dVar (i : Nat) : Rho → Res D := fun r => match r[i]? with
  | some (some d) => .ok d
  | _ => .bad
def dC (d : D) : Rho → Res D := fun _ => .ok d
theorem of_dVar {σ : St} {S H : Hp} {i : Nat} {r : Rho} {k : D → Hp → Hp → Prop} (p : PostG c σ S H (dVar i r) k) : ∃ d, r[i]? = some (some d) ∧ PostG c σ S H (.ok d) k := by
  unfold dVar at p
  split at p
  · exact ⟨_, by assumption, p⟩
  · exact p.elim
theorem de_var (i : Nat) {x : Str} (h : PE X (.Name x pos) (tVar i)) (k : kd G i = .v) : PE X (.Name x pos) (tV c G (dVar i)) := pe_imp h fun σ H Q ⟨S0, H0, S, r, ok, p⟩ => by
  obtain ⟨d, hd, p⟩ := of_dVar p
  obtain ⟨v, h1, h2⟩ := ok.slot i d hd
  rw [k] at h2
  exact ⟨v, h1, p.here ok.ex h2⟩
theorem db_var (i : Nat) {x : Str} (h : PE X (.Name x pos) (tVar i)) (k : kd G i = .v ∨ isO (kd G i) ∨ kd G i = .b) : PE X (.Name x pos) (tR c G (dVar i)) := pe_imp h fun σ H Q ⟨S0, H0, S, r, ok, p⟩ => by
  obtain ⟨d, hd, p⟩ := of_dVar p
  obtain ⟨v, h1, h2⟩ := ok.slot i d hd
  refine ⟨v, h1, p.here ok.ex ?_⟩
  rcases k with k | k | k
  · rw [k] at h2; exact .inl h2
  · obtain ⟨q, ho, z1, z2, z3, z4, z5⟩ := h2.o_of k
    exact .inr ⟨q, ho, z1, z2, z5⟩
  · rw [k] at h2
    exact RpB.mono h2 Ex.refl ok.fwd.h
theorem de_c {v : V} {d : D} (h : PE X e (tC v)) (hd : ∀ S, Rp c.K c.cm S v d) : PE X e (tV c G (dC d)) := pe_imp h fun σ H Q ⟨S0, H0, S, r, ok, p⟩ => p.here ok.ex (hd S)
theorem de_int {i : Int} {j : Nat} : PE X (.Constant (.int i) j pos) (tV c G (dC (.int i))) := de_c pe_int fun _ => .int i
theorem de_bl {b : Bool} {j : Nat} : PE X (.Constant (.bool b) j pos) (tV c G (dC (.bl b))) := de_c pe_bl fun _ => .bl b
theorem de_non {j : Nat} : PE X (.Constant .none j pos) (tV c G (dC .non)) := de_c pe_non fun _ => .non
theorem de_str {x : Str} {j : Nat} : PE X (.Constant (.str x) j pos) (tV c G (dC (.str x))) := de_c pe_str fun _ => .str x
def dOp (g : D → D → Res D) (f1 f2 : Rho → Res D) : Rho → Res D := fun r => (f1 r).bind fun x => (f2 r).bind fun y => g x y
def OpS (c : Cf) (R : Md V D) (r2 : R2) (g : D → D → Res D) : Prop := ∀ (σ : St) (S H : Hp) (x y : V) (d e : D) (Q : VK), Ex S H → RpB c.K c.cm S H x d → RpB c.K c.cm S H y e →
  PostG c σ S H (g d e) (fun a S' H' => ∀ b, R H S' H' b a → Q b H') → r2 x y H Q
theorem op_rd {R : Md V D} [Anti R] {r2 : R2} {g : D → D → Res D} (hs : OpS c R r2 g) : ∀ σ H Q, rd c G (dOp g f1 f2) R σ H Q → tOp r2 (tR c G f1) (tR c G f2) σ H Q := fun σ H Q ⟨S0, H0, S, r, ok, p⟩ =>
  rd_seq ok p fun x v S1 H1 w1 o1 m1 p1 => rd_seq o1 p1 fun y u S2 H2 w2 o2 m2 p2 => hs σ S2 H2 v u x y Q o2.ex (RpB.mono m1 w2.s w2.h) m2 (p2.anti (w1.h.trans w2.h))
theorem de_op {R : Md V D} [Anti R] {op : Operator} {r2 : R2} {g : D → D → Res D} (ho : OpR X (binaryOp op) r2) (hs : OpS c R r2 g) (ha : PE X a (tR c G f1)) (hb : PE X b (tR c G f2)) : PE X (.BinOp a op b pos) (rd c G (dOp g f1 f2) R) :=
  pe_imp (pe_op ho ha hb) (op_rd hs)
theorem de_cmp {R : Md V D} [Anti R] {op : CmpOp} {r2 : R2} {g : D → D → Res D} (ho : OpR X (compareOp op) r2) (hs : OpS c R r2 g) (ha : PE X a (tR c G f1)) (hb : PE X b (tR c G f2)) (hm : behindInMarks op b = false) :
    PE X (.Compare a [op] [b] pos) (rd c G (dOp g f1 f2) R) := pe_imp (pe_cmpR ho ha hb hm) (op_rd hs)
/-- a truth value as a test -/
def asB : D → Res Bool
  | .bl b => .ok b
  | _ => .bad
def dT (f : Rho → Res D) : Rho → Res Bool := fun r => (f r).bind asB
theorem of_asB {σ : St} {S H : Hp} {d : D} {k : Bool → Hp → Hp → Prop} (p : PostG c σ S H (asB d) k) : ∃ b, d = .bl b ∧ PostG c σ S H (.ok b) k := by
  cases d with
  | bl b => exact ⟨b, rfl, p⟩
  | _ => exact p.elim
theorem dt_cmp {op : CmpOp} {r2 : R2} {g : D → D → Res D} (ho : OpR X (compareOp op) r2) (hs : OpS c (mV c) r2 g) (ha : PE X a (tR c G f1)) (hb : PE X b (tR c G f2)) (hm : behindInMarks op b = false) :
    PT X (.Compare a [op] [b] pos) (tT c G (dT (dOp g f1 f2))) := pt_imp (pt_cmpR ho ha hb hm) fun σ H Q ⟨S0, H0, S, r, ok, p⟩ => by
  refine op_rd (G := G) (f1 := f1) (f2 := f2) hs σ H _ (rd_seq ok p fun d v S1 H1 w1 o1 m1 p1 => ?_)
  obtain ⟨b, rfl, p1⟩ := of_asB p1
  cases m1
  exact ⟨b, rfl, p1.go o1.ex _ rfl⟩
/-- an expression whose value is True or False, as a test -/
theorem dt_val (h : PE X e (tV c G f)) (he : ∀ whole, isTrue e X.env whole = (do let v ← whole; standAt e.pos; holding [v] (truthy v)) := by intro _; rfl) : PT X e (tT c G (dT f)) :=
  pt_imp (pt_val h he) fun σ H Q ⟨S0, H0, S, r, ok, p⟩ => rd_seq ok p fun d v S1 H1 w1 o1 m1 p1 => by
    obtain ⟨b, rfl, p1⟩ := of_asB p1
    cases m1
    exact ⟨b, rfl, p1.go o1.ex _ rfl⟩
variable {t1 t2 : Rho → Res Bool} {rest : List Expr}
def dAnd (t u : Rho → Res Bool) : Rho → Res Bool := fun r => (t r).bind fun b => if b = true then u r else .ok false
def dOr (t u : Rho → Res Bool) : Rho → Res Bool := fun r => (t r).bind fun b => if b = true then .ok true else u r
def dNot (t : Rho → Res Bool) : Rho → Res Bool := fun r => (t r).bind fun b => .ok (!b)
def dIf {α : Type} (t : Rho → Res Bool) (f g : Rho → Res α) : Rho → Res α := fun r => (t r).bind fun b => if b = true then f r else g r
theorem pw_imp {t t' : TT} (h : PW X e t) (k : ∀ σ H Q, t' σ H Q → t σ H Q) : PW X e t' := ⟨fun w pins s σ H Q I q => h.run w pins s σ H Q I (k σ H Q q)⟩
theorem dw_and1 (ha : PT X a (tT c G t1)) : PW X (.BoolOp .And [a] pos) (tT c G t1) := pw_and1 ha
theorem dw_or1 (ha : PT X a (tT c G t1)) : PW X (.BoolOp .Or [a] pos) (tT c G t1) := pw_or1 ha
theorem dw_and (ha : PT X a (tT c G t1)) (hb : PW X (.BoolOp .And (b :: rest) pos) (tT c G t2)) : PW X (.BoolOp .And (a :: b :: rest) pos) (tT c G (dAnd t1 t2)) := pw_imp (pw_and ha hb) fun σ H Q ⟨S0, H0, S, r, ok, p⟩ =>
  rd_seq ok p fun x v S1 H1 w1 o1 m1 p1 => by
    rw [show v = x from m1]
    cases x with
    | true => exact ⟨S0, H0, S1, r, o1, p1⟩
    | false => exact p1.go o1.ex _ rfl
theorem dw_or (ha : PT X a (tT c G t1)) (hb : PW X (.BoolOp .Or (b :: rest) pos) (tT c G t2)) : PW X (.BoolOp .Or (a :: b :: rest) pos) (tT c G (dOr t1 t2)) := pw_imp (pw_or ha hb) fun σ H Q ⟨S0, H0, S, r, ok, p⟩ =>
  rd_seq ok p fun x v S1 H1 w1 o1 m1 p1 => by
    rw [show v = x from m1]
    cases x with
    | true => exact p1.go o1.ex _ rfl
    | false => exact ⟨S0, H0, S1, r, o1, p1⟩
theorem dt_not (ha : PT X a (tT c G t1)) : PT X (.UnaryOp .Not a pos) (tT c G (dNot t1)) := pt_imp (pt_not ha) fun σ H Q ⟨S0, H0, S, r, ok, p⟩ =>
  rd_seq ok p fun x v S1 H1 w1 o1 m1 p1 => by
    rw [show v = x from m1]
    exact p1.go o1.ex _ rfl
/-- and, or, not as values: all True or False -/
def dAndV (f g : Rho → Res D) : Rho → Res D := fun r => (f r).bind fun x => (asB x).bind fun b => if b = true then g r else .ok (.bl false)
def dOrV (f g : Rho → Res D) : Rho → Res D := fun r => (f r).bind fun x => (asB x).bind fun b => if b = true then .ok (.bl true) else g r
def dNotV (f : Rho → Res D) : Rho → Res D := fun r => (f r).bind fun x => (asB x).bind fun b => .ok (.bl (!b))
end
end Dx
end S_DxB
section S_DxC
set_option Elab.async false
set_option linter.all false
set_option maxRecDepth 100000
set_option maxHeartbeats 2000000
namespace Dx
open PySem L2
mutual
def toPy : D → Option PyData
  | .non => some .none
  | .bl b => some (.bool b)
  | .int i => some (.int i)
  | .str s => some (.str s)
  | .lst ds => (toPyL ds).map .list
  | .fz ds => (toPyL ds).map .list
  | .tup ds => (toPyL ds).map .tuple
  | .kt ds => (toPyL ds).map .tuple
  | .dk _ _ => none
  | .dt _ _ => none
  | .obj _ _ _ => none
  | .own _ => none
  | .st _ _ => none
def toPyL : List D → Option (List PyData)
  | [] => some []
  | d :: ds => match toPy d, toPyL ds with
    | some p, some ps => some (p :: ps)
    | _, _ => none
end
section
variable {K : PySem.W.Frag} {cm : CM} {S H : Hp}
mutual
theorem Rp.dp (e : Ex S H) : ∀ {v : V} {d : D} {p : PyData}, Rp K cm S v d → toPy d = some p → Dp K H v p
  | _, .non, _, h, q => by cases h; cases q; exact .non
  | _, .bl _, _, h, q => by cases h; cases q; exact .bl _
  | _, .int _, _, h, q => by cases h; cases q; exact .int _
  | _, .str _, _, h, q => by cases h; cases q; exact .str _
  | _, .lst ds, _, h, q => by
    cases h with | lst a r =>
    rw [toPy] at q
    obtain ⟨ps, h1, rfl⟩ := Option.map_eq_some_iff.mp q
    exact .lst (.inl (.inl (e _ _ a))) (RpA.dp e r h1)
  | _, .fz ds, _, h, q => by
    cases h with | fz a r =>
    rw [toPy] at q
    obtain ⟨ps, h1, rfl⟩ := Option.map_eq_some_iff.mp q
    exact .lst (e.l a) (RpA.dp e r h1)
  | _, .tup ds, _, h, q => by
    cases h with | tup a r =>
    rw [toPy] at q
    obtain ⟨ps, h1, rfl⟩ := Option.map_eq_some_iff.mp q
    exact .tup (.inl (.inl (e _ _ a))) (RpA.dp e r h1)
  | _, .kt ds, _, h, q => by
    cases h with | kt a r =>
    rw [toPy] at q
    obtain ⟨ps, h1, rfl⟩ := Option.map_eq_some_iff.mp q
    exact .tup (e.t a) (RpA.dp e r h1)
  | _, .dk _ _, _, h, q => by cases q
  | _, .dt _ _, _, h, q => by cases q
  | _, .obj _ _ _, _, h, q => by cases q
theorem RpA.dp (e : Ex S H) : ∀ {vs : List V} {ds : List D} {ps : List PyData}, RpA K cm S vs ds → toPyL ds = some ps → DpAll K H vs ps
  | _, [], _, h, q => by cases h; cases q; exact .nil
  | _, d :: ds, _, h, q => by
    cases h with | cons a r =>
    rw [toPyL] at q
    cases h1 : toPy d with
    | none => rw [h1] at q; cases q
    | some p =>
      cases h2 : toPyL ds with
      | none => rw [h1, h2] at q; cases q
      | some ps =>
        rw [h1, h2] at q
        cases q
        exact .cons (Rp.dp e a h1) (RpA.dp e r h2)
end
theorem RpB.dp {v : V} {d : D} {p : PyData} (e : Ex S H) (h : RpB K cm S H v d) (q : toPy d = some p) : Dp K H v p := by
  rcases h with h | ⟨a, ho, rfl, h2, h3⟩
  · exact h.dp e q
  · cases h3 with
    | lst r =>
      rw [toPy] at q
      obtain ⟨ps, h1, rfl⟩ := Option.map_eq_some_iff.mp q
      exact .lst (.inl (.inl h2)) (r.dp e h1)
    | dk _ _ => cases q
    | dt _ _ => cases q
    | obj _ _ _ => cases q
end
noncomputable def addD : D → D → Res D
  | .int i, .int j => .ok (.int (i + j))
  | .str a, .str b => guard (a.length + b.length ≤ sizeLine) (.ok (.str (a ++ b)))
  | .tup a, .tup b => guard (a.length + b.length ≤ sizeLine) (.ok (.tup (a ++ b)))
  | .lst a, .lst b => guard (a.length + b.length ≤ sizeLine) (.ok (.lst (a ++ b)))
  | _, _ => .bad
def rAddX (K : PySem.W.Frag) : R2 := fun x y H Q => (rI0 (fun i j => .int (i + j))) x y H Q ∨ (∃ i j, x = .str i ∧ y = .str j ∧ i.length + j.length ≤ sizeLine ∧ Q (.str (i ++ j)) H) ∨ rCatA K x y H Q ∨ rCat x y H Q
section
variable {X : Cx} {c : Cf}
theorem or_add : OpR X (binaryOp .Add) (rAddX X.K) := op_add.or (op_add_str.or (op_catA.or op_cat))
theorem PostG.ite {σ : St} {S H : Hp} {α : Type} {p : Prop} [Decidable p] {x : Res α} {k : α → Hp → Hp → Prop} (h : PostG c σ S H (if p then x else .bad) k) : p ∧ PostG c σ S H x k := by
  by_cases hp : p
  · rw [if_pos hp] at h; exact ⟨hp, h⟩
  · rw [if_neg hp] at h; exact h.elim
theorem os_add : OpS c (mV c) (rAddX c.K) addD := by
  intro σ S H x y d e Q ex hx hy p
  unfold addD at p
  split at p
  · cases hx.int; cases hy.int
    exact .inl ⟨_, _, rfl, rfl, p.here ex (.int _)⟩
  · cases hx.str; cases hy.str
    obtain ⟨hl, p⟩ := p.gd
    exact .inr (.inl ⟨_, _, rfl, rfl, hl, p.here ex (.str _)⟩)
  · obtain ⟨q1, xs, rfl, a1, r1, s1⟩ := hx.tup ex
    obtain ⟨q2, ys, rfl, a2, r2, s2⟩ := hy.tup ex
    obtain ⟨hl, p⟩ := p.gd
    refine .inr (.inr (.inl ⟨_, _, xs, ys, rfl, rfl, a1, a2, by rw [r1.length, r2.length]; exact hl, fun h => ?_, fun _ h => ?_, fun _ _ q hq => ?_⟩))
    · subst h; cases r1; exact p.here ex (.tup s2 r2)
    · subst h; cases r2; rw [List.append_nil] at p; exact p.here ex (.tup s1 r1)
    · exact p.laid ex hq (.tup upd_same ((r1.app r2).mono (Ex.new (ex.nn hq))))
  · obtain ⟨q1, xs, rfl, a1, r1⟩ := hx.list ex
    obtain ⟨q2, ys, rfl, a2, r2⟩ := hy.list ex
    obtain ⟨hl, p⟩ := p.gd
    refine .inr (.inr (.inr ⟨_, _, xs, ys, rfl, rfl, a1, a2, by rw [r1.length, r2.length]; exact hl, fun q hq => ?_⟩))
    exact p.laid ex hq (.lst upd_same ((r1.app r2).mono (Ex.new (ex.nn hq))))
  · exact p.elim
/-- list + list, the new list one's own -/
noncomputable def addL : D → D → Res D
  | .lst a, .lst b => guard (a.length + b.length ≤ sizeLine) (.ok (.lst (a ++ b)))
  | _, _ => .bad
theorem os_addL : OpS c (mO c) rCat addL := by
  intro σ S H x y d e Q ex hx hy p
  unfold addL at p
  split at p
  · obtain ⟨q1, xs, rfl, a1, r1⟩ := hx.list ex
    obtain ⟨q2, ys, rfl, a2, r2⟩ := hy.list ex
    obtain ⟨hl, p⟩ := p.gd
    exact ⟨_, _, xs, ys, rfl, rfl, a1, a2, by rw [r1.length, r2.length]; exact hl, fun q hq => p.kept ex hq (.lst (r1.app r2))⟩
  · exact p.elim
def subD : D → D → Res D
  | .int i, .int j => .ok (.int (i - j))
  | _, _ => .bad
theorem os_sub : OpS c (mV c) (rI0 fun i j => .int (i - j)) subD := by
  intro σ S H x y d e Q ex hx hy p
  unfold subD at p
  split at p
  · cases hx.int; cases hy.int
    exact ⟨_, _, rfl, rfl, p.here ex (.int _)⟩
  · exact p.elim
def smallI (i : Int) : Prop := -(2 ^ 64) < i ∧ i < 2 ^ 64
theorem RpA.rep {K : PySem.W.Frag} {cm : CM} {S : Hp} {vs : List V} {ds : List D} (h : RpA K cm S vs ds) : ∀ n : Nat, RpA K cm S (List.replicate n vs).flatten (List.replicate n ds).flatten
  | 0 => .nil
  | n + 1 => by rw [List.replicate_succ, List.replicate_succ, List.flatten_cons, List.flatten_cons]; exact h.app (RpA.rep h n)
noncomputable def mulD : D → D → Res D
  | .int i, .int j => guard (smallI i ∨ smallI j) (.ok (.int (i * j)))
  | .lst a, .int k => guard (0 ≤ k ∧ k < 2 ^ 60 ∧ a.length * k.toNat ≤ sizeLine) (.ok (.lst (List.replicate k.toNat a).flatten))
  | _, _ => .bad
def rMulX : R2 := fun x y H Q => (rI CMul (fun i j => .int (i * j))) x y H Q ∨ rRep x y H Q
theorem or_mul : OpR X (binaryOp .Mult) rMulX := op_mul.or op_rep
theorem os_mul : OpS c (mV c) rMulX mulD := by
  intro σ S H x y d e Q ex hx hy p
  unfold mulD at p
  split at p
  · cases hx.int; cases hy.int
    obtain ⟨hl, p⟩ := p.gd
    exact .inl ⟨_, _, rfl, rfl, hl, p.here ex (.int _)⟩
  · obtain ⟨q1, xs, rfl, a1, r1⟩ := hx.list ex
    cases hy.int
    obtain ⟨⟨h0, h1, h2⟩, p⟩ := p.gd
    refine .inr ⟨_, _, xs, rfl, rfl, a1, by omega, by omega, by rw [r1.length]; exact h2, fun q hq => ?_⟩
    exact p.laid ex hq (.lst upd_same ((r1.rep _).mono (Ex.new (ex.nn hq))))
  · exact p.elim
noncomputable def fdivD : D → D → Res D
  | .int i, .int j => if 0 < j then guard (j < 4611686018427387904) (.ok (.int (i / j))) else guard (j ≠ 0 ∧ j.natAbs < 1073741824) (.ok (.int (i.fdiv j)))
  | _, _ => .bad
def rFdivX : R2 := fun x y H Q => (rI CDivW (fun i j => .int (i / j))) x y H Q ∨ (rI CDivN (fun i j => .int (i.fdiv j))) x y H Q
theorem or_fdiv : OpR X (binaryOp .FloorDiv) rFdivX := op_fdivW.or op_fdivN
theorem os_fdiv : OpS c (mV c) rFdivX fdivD := by
  intro σ S H x y d e Q ex hx hy p
  unfold fdivD at p
  split at p
  · cases hx.int; cases hy.int
    split at p
    · rename_i h
      obtain ⟨h2, p⟩ := p.gd
      exact .inl ⟨_, _, rfl, rfl, wide_div (b := 62) h (by omega) (by decide) (by decide), p.here ex (.int _)⟩
    · obtain ⟨h, p⟩ := p.gd
      exact .inr ⟨_, _, rfl, rfl, h, p.here ex (.int _)⟩
  · exact p.elim
noncomputable def modD : D → D → Res D
  | .int i, .int j => guard (0 < j) (.ok (.int (i % j)))
  | _, _ => .bad
theorem os_mod : OpS c (mV c) (rI (fun _ j => 0 < j) fun i j => .int (i % j)) modD := by
  intro σ S H x y d e Q ex hx hy p
  unfold modD at p
  split at p
  · cases hx.int; cases hy.int
    obtain ⟨h, p⟩ := p.gd
    exact ⟨_, _, rfl, rfl, h, p.here ex (.int _)⟩
  · exact p.elim
def intsD (g : Int → Int → Int) : D → D → Res D
  | .int i, .int j => .ok (.int (g i j))
  | _, _ => .bad
def eqFlat : D → D → Option Bool
  | .int i, .int j => some (decide (i = j))
  | .str a, .str b => some (decide (a = b))
  | .bl a, .bl b => some (decide (a = b))
  | .non, .non => some true
  | .non, .int _ => some false
  | .non, .bl _ => some false
  | .non, .str _ => some false
  | .int _, .non => some false
  | .bl _, .non => some false
  | .str _, .non => some false
  | .int _, .str _ => some false
  | .str _, .int _ => some false
  | .bl _, .str _ => some false
  | .str _, .bl _ => some false
  | _, _ => none
def eqDeep (d e : D) : Res Bool := match toPy d, toPy e with
  | some p, some q => if SeqAt.shaped p = true ∧ SeqAt.shaped q = true then .ok (PyData.eqv p q) else .bad
  | _, _ => .bad
def eqB (d e : D) : Res Bool := match eqFlat d e with
  | some b => .ok b
  | none => eqDeep d e
def eqD (d e : D) : Res D := (eqB d e).bind fun b => .ok (.bl b)
def neD (d e : D) : Res D := (eqB d e).bind fun b => .ok (.bl (!b))
theorem of_eqDeep {σ : St} {S H : Hp} {x y : V} {d e : D} {g : Bool → Res D} {k : D → Hp → Hp → Prop} (ex : Ex S H) (hx : RpB c.K c.cm S H x d) (hy : RpB c.K c.cm S H y e) (p : PostG c σ S H ((eqDeep d e).bind g) k) :
    ∃ u v, Dp c.K H x u ∧ Dp c.K H y v ∧ SeqAt.shaped u = true ∧ SeqAt.shaped v = true ∧ PostG c σ S H (g (PyData.eqv u v)) k := by
  unfold eqDeep at p
  split at p
  · rename_i u v h1 h2
    by_cases hs : SeqAt.shaped u = true ∧ SeqAt.shaped v = true
    · rw [if_pos hs] at p
      exact ⟨u, v, hx.dp ex h1, hy.dp ex h2, hs.1, hs.2, p⟩
    · rw [if_neg hs] at p
      exact p.elim
  · exact p.elim
theorem of_eqFlat {S H : Hp} {x y : V} {d e : D} {b : Bool} (hx : RpB c.K c.cm S H x d) (hy : RpB c.K c.cm S H y e) (h : eqFlat d e = some b) : scal x y = true ∧ decide (x = y) = b := by
  unfold eqFlat at h
  split at h
  · cases hx.int; cases hy.int; cases h; exact ⟨rfl, by simp⟩
  · cases hx.str; cases hy.str; cases h; exact ⟨rfl, by simp⟩
  · cases hx.bl; cases hy.bl; cases h; exact ⟨rfl, by simp⟩
  · cases hx.non; cases hy.non; cases h; exact ⟨rfl, rfl⟩
  · cases hx.non; cases hy.int; cases h; exact ⟨rfl, rfl⟩
  · cases hx.non; cases hy.bl; cases h; exact ⟨rfl, rfl⟩
  · cases hx.non; cases hy.str; cases h; exact ⟨rfl, rfl⟩
  · cases hx.int; cases hy.non; cases h; exact ⟨rfl, rfl⟩
  · cases hx.bl; cases hy.non; cases h; exact ⟨rfl, rfl⟩
  · cases hx.str; cases hy.non; cases h; exact ⟨rfl, rfl⟩
  · cases hx.int; cases hy.str; cases h; exact ⟨rfl, rfl⟩
  · cases hx.str; cases hy.int; cases h; exact ⟨rfl, rfl⟩
  · cases hx.bl; cases hy.str; cases h; exact ⟨rfl, rfl⟩
  · cases hx.str; cases hy.bl; cases h; exact ⟨rfl, rfl⟩
  · cases h
def rEqX (K : PySem.W.Frag) : R2 := fun x y H Q => rEq x y H Q ∨ rEqD K x y H Q
def rNeX (K : PySem.W.Frag) : R2 := fun x y H Q => rNe x y H Q ∨ rNeD K x y H Q
theorem or_eq (hu : X.A.units + 64 < cLine) : OpR X (compareOp .Eq) (rEqX X.K) := op_eq.or (op_eqD hu)
theorem or_ne (hu : X.A.units + 64 < cLine) : OpR X (compareOp .NotEq) (rNeX X.K) := op_ne.or (op_neD hu)
theorem os_eq : OpS c (mV c) (rEqX c.K) eqD := by
  intro σ S H x y d e Q ex hx hy p
  unfold eqD eqB at p
  split at p
  · rename_i b hb
    obtain ⟨h1, h2⟩ := of_eqFlat hx hy hb
    refine .inl ⟨h1, ?_⟩
    rw [h2]; exact p.here ex (.bl _)
  · obtain ⟨u, v, h1, h2, h3, h4, p⟩ := of_eqDeep ex hx hy p
    exact .inr ⟨u, v, h1, h2, h3, h4, p.here ex (.bl _)⟩
theorem os_ne : OpS c (mV c) (rNeX c.K) neD := by
  intro σ S H x y d e Q ex hx hy p
  unfold neD eqB at p
  split at p
  · rename_i b hb
    obtain ⟨h1, h2⟩ := of_eqFlat hx hy hb
    refine .inl ⟨h1, ?_⟩
    rw [h2]; exact p.here ex (.bl _)
  · obtain ⟨u, v, h1, h2, h3, h4, p⟩ := of_eqDeep ex hx hy p
    exact .inr ⟨u, v, h1, h2, h3, h4, p.here ex (.bl _)⟩
/-- by ints, by texts -/
def ordD (g : Int → Int → Bool) (h : Str → Str → Bool) : D → D → Res D
  | .int i, .int j => .ok (.bl (g i j))
  | .str a, .str b => .ok (.bl (h a b))
  | _, _ => .bad
def rOrd (g : Int → Int → Bool) (h : Str → Str → Bool) : R2 := fun x y H Q => (rI0 fun i j => .bl (g i j)) x y H Q ∨ ∃ i j, x = .str i ∧ y = .str j ∧ Q (.bl (h i j)) H
theorem os_ord {g : Int → Int → Bool} {h : Str → Str → Bool} : OpS c (mV c) (rOrd g h) (ordD g h) := by
  intro σ S H x y d e Q ex hx hy p
  unfold ordD at p
  split at p
  · cases hx.int; cases hy.int
    exact .inl ⟨_, _, rfl, rfl, p.here ex (.bl _)⟩
  · cases hx.str; cases hy.str
    exact .inr ⟨_, _, rfl, rfl, p.here ex (.bl _)⟩
  · exact p.elim
abbrev ltD : D → D → Res D := ordD (fun i j => decide (i < j)) fun i j => decide (i.cps.toList < j.cps.toList)
abbrev leD : D → D → Res D := ordD (fun i j => decide (i ≤ j)) fun i j => !decide (j.cps.toList < i.cps.toList)
abbrev gtD : D → D → Res D := ordD (fun i j => decide (j < i)) fun i j => decide (j.cps.toList < i.cps.toList)
abbrev geD : D → D → Res D := ordD (fun i j => decide (j ≤ i)) fun i j => !decide (i.cps.toList < j.cps.toList)
theorem or_lt : OpR X (compareOp .Lt) (rOrd (fun i j => decide (i < j)) fun i j => decide (i.cps.toList < j.cps.toList)) := op_lt.or op_lt_str
theorem or_le : OpR X (compareOp .LtE) (rOrd (fun i j => decide (i ≤ j)) fun i j => !decide (j.cps.toList < i.cps.toList)) := op_le.or op_le_str
theorem or_gt : OpR X (compareOp .Gt) (rOrd (fun i j => decide (j < i)) fun i j => decide (j.cps.toList < i.cps.toList)) := op_gt.or op_gt_str
theorem or_ge : OpR X (compareOp .GtE) (rOrd (fun i j => decide (j ≤ i)) fun i j => !decide (i.cps.toList < j.cps.toList)) := op_ge.or op_ge_str
/-- is None, is not None -/
def isN : D → Bool
  | .non => true
  | _ => false
def isD (neg : Bool) (d e : D) : Res D := if isN e = true then .ok (.bl (if neg then !isN d else isN d)) else .bad
theorem RpB.isN {K : PySem.W.Frag} {cm : CM} {S H : Hp} {v : V} {d : D} (h : RpB K cm S H v d) : decide (v = .non) = isN d := by
  rcases h with h | ⟨p, ho, rfl, h2, h3⟩
  · cases h <;> rfl
  · cases h3 <;> rfl
theorem os_is : OpS c (mV c) (fun x y H Q => y = .non ∧ Q (.bl (decide (x = .non))) H) (isD false) := by
  intro σ S H x y d e Q ex hx hy p
  obtain ⟨h, p⟩ := p.ite
  rw [hx.isN]
  refine ⟨of_decide_eq_true (hy.isN.trans h), p.here ex (.bl _)⟩
theorem os_isnot : OpS c (mV c) (fun x y H Q => y = .non ∧ Q (.bl (!decide (x = .non))) H) (isD true) := by
  intro σ S H x y d e Q ex hx hy p
  obtain ⟨h, p⟩ := p.ite
  rw [hx.isN]
  refine ⟨of_decide_eq_true (hy.isN.trans h), p.here ex (.bl _)⟩
/-- x in: a list of data, a text in a text, a flat thing in a tuple of flat things -/
def flatD : D → Option V
  | .non => some .non
  | .bl b => some (.bl b)
  | .int i => some (.int i)
  | .str s => some (.str s)
  | _ => none
def flatDs : List D → Option (List V)
  | [] => some []
  | d :: ds => match flatD d, flatDs ds with
    | some v, some vs => some (v :: vs)
    | _, _ => none
def inDeep (d : D) (ds : List D) : Res Bool := match toPy d, toPyL ds with
  | some p, some ps => if SeqAt.shaped p = true ∧ SeqAt.shaped (.list ps) = true then .ok (ps.any fun z => PyData.eqv z p) else .bad
  | _, _ => .bad
def inFlat (d : D) (ds : List D) : Option Bool := match flatD d, flatDs ds with
  | some v, some vs => some (inV v vs)
  | _, _ => none
def inLst (d : D) (ds : List D) : Res Bool := match inFlat d ds with
  | some b => .ok b
  | none => inDeep d ds
def inTup (d : D) (ds : List D) : Res Bool := match inFlat d ds with
  | some b => .ok b
  | none => .bad
def inStr (a b : Str) : Bool := match a.cps.toList with
  | [n] => decide (n ∈ b.cps.toList)
  | _ => !(Builtin.Str.occurrences b a 0 b.length 1).isEmpty
def inB : D → D → Res Bool
  | d, .lst ds => inLst d ds
  | d, .fz ds => inLst d ds
  | d, .tup ds => inTup d ds
  | .str a, .str b => .ok (inStr a b)
  | _, _ => .bad
def inD (d e : D) : Res D := (inB d e).bind fun b => .ok (.bl b)
def ninD (d e : D) : Res D := (inB d e).bind fun b => .ok (.bl (!b))
end
end Dx
end S_DxC
section S_DxD
set_option Elab.async false
set_option linter.all false
set_option maxRecDepth 100000
set_option maxHeartbeats 2000000
namespace Dx
open PySem L2
section
variable {X : Cx} {c : Cf} {G : List Ow} {f f1 f2 f3 : Rho → Res D} {a b e : Expr} {es : List Expr} {pos p : Pos} {fs : Rho → Res (List D)}
def dChain (g g' : D → D → Res D) (f1 f2 f3 : Rho → Res D) : Rho → Res D := fun r => (f1 r).bind fun x => (f2 r).bind fun y => (g x y).bind fun z => (asB z).bind fun k => if k = true then (f3 r).bind fun w => g' y w else .ok (.bl false)
theorem chain_rd {r2 r2' : R2} {g g' : D → D → Res D} (hs : OpS c (mV c) r2 g) (hs' : OpS c (mV c) r2' g') : ∀ σ H Q, tV c G (dChain g g' f1 f2 f3) σ H Q → tChain r2 r2' (tR c G f1) (tR c G f2) (tR c G f3) σ H Q := fun σ H Q ⟨S0, H0, S, r, ok, p⟩ =>
  rd_seq ok p fun x v S1 H1 w1 o1 m1 p1 => rd_seq o1 p1 fun y u S2 H2 w2 o2 m2 p2 => hs σ S2 H2 v u x y _ o2.ex (RpB.mono m1 w2.s w2.h) m2 (p2.unbind.imp fun z S3 H3 w3 p3 bz hz => by
    obtain ⟨k, rfl, q3⟩ := of_asB (PostG.imp p3.unbind fun _ _ _ _ h => h)
    cases hz
    refine ⟨k, rfl, ?_⟩
    have o3 := o2.go w3
    have p4 := q3.go o3.ex
    cases k with
    | true => exact rd_seq o3 p4 fun w u' S4 H4 w4 o4 m4 p5 => hs' σ S4 H4 u u' y w Q o4.ex (RpB.mono m2 (w3.s.trans w4.s) (w3.h.trans w4.h)) m4 p5
    | false => exact p4.go o3.ex _ (.bl _))
theorem de_chain {op op' : CmpOp} {r2 r2' : R2} {g g' : D → D → Res D} {e3 : Expr} (ho : OpR X (compareOp op) r2) (hs : OpS c (mV c) r2 g) (ho' : OpR X (compareOp op') r2') (hs' : OpS c (mV c) r2' g') (ha : PE X a (tR c G f1)) (hb : PE X b (tR c G f2)) (hc : PE X e3 (tR c G f3))
    (hm : lastMarks [op, op'] [b, e3] = false := by with_unfolding_all rfl) : PE X (.Compare a [op, op'] [b, e3] pos) (tV c G (dChain g g' f1 f2 f3)) := pe_imp (pe_chain ho ho' ha hb hc hm) (chain_rd hs hs')
theorem dt_chain {op op' : CmpOp} {r2 r2' : R2} {g g' : D → D → Res D} {e3 : Expr} (ho : OpR X (compareOp op) r2) (hs : OpS c (mV c) r2 g) (ho' : OpR X (compareOp op') r2') (hs' : OpS c (mV c) r2' g') (ha : PE X a (tR c G f1)) (hb : PE X b (tR c G f2)) (hc : PE X e3 (tR c G f3))
    (hm : lastMarks [op, op'] [b, e3] = false := by with_unfolding_all rfl) : PT X (.Compare a [op, op'] [b, e3] pos) (tT c G (dT (dChain g g' f1 f2 f3))) := pt_imp (pt_chain ho ho' ha hb hc hm) fun σ H Q ⟨S0, H0, S, r, ok, p⟩ => by
  refine chain_rd (G := G) hs hs' σ H _ (rd_seq ok p fun d v S1 H1 w1 o1 m1 p1 => ?_)
  obtain ⟨b, rfl, p1⟩ := of_asB p1
  cases m1
  exact ⟨b, rfl, p1.go o1.ex _ rfl⟩
def negD : D → Res D
  | .int i => .ok (.int (-i))
  | _ => .bad
def dUn (g : D → Res D) (f : Rho → Res D) : Rho → Res D := fun r => (f r).bind g
theorem de_neg (ha : PE X a (tV c G f)) : PE X (.UnaryOp .USub a pos) (tV c G (dUn negD f)) := pe_imp (pe_un un_neg ha) fun σ H Q ⟨S0, H0, S, r, ok, p⟩ => rd_seq ok p fun d v S1 H1 w1 o1 m1 p1 => by
  cases d with
  | int i => cases m1; exact ⟨i, rfl, p1.go o1.ex _ (.int _)⟩
  | _ => exact p1.elim
theorem de_one {op : BoolOp} (h : PE X a (tV c G f)) : PE X (.BoolOp op [a] pos) (tV c G f) := pe_one h
theorem de_and {rest : List Expr} (ha : PE X a (tV c G f1)) (hb : PE X (.BoolOp .And (b :: rest) pos) (tV c G f2)) : PE X (.BoolOp .And (a :: b :: rest) pos) (tV c G (dAndV f1 f2)) := pe_imp (pe_and ha hb) fun σ H Q ⟨S0, H0, S, r, ok, p⟩ =>
  rd_seq ok p fun d v S1 H1 w1 o1 m1 p1 => by
    obtain ⟨k, rfl, q1⟩ := of_asB (p1.unbind)
    cases m1
    refine ⟨k, rfl, ?_⟩
    have p2 := q1.go o1.ex
    cases k with
    | true => exact ⟨S0, H0, S1, r, o1, p2⟩
    | false => exact p2.go o1.ex _ (.bl _)
theorem de_or {rest : List Expr} (ha : PE X a (tV c G f1)) (hb : PE X (.BoolOp .Or (b :: rest) pos) (tV c G f2)) : PE X (.BoolOp .Or (a :: b :: rest) pos) (tV c G (dOrV f1 f2)) := pe_imp (pe_or ha hb) fun σ H Q ⟨S0, H0, S, r, ok, p⟩ =>
  rd_seq ok p fun d v S1 H1 w1 o1 m1 p1 => by
    obtain ⟨k, rfl, q1⟩ := of_asB (p1.unbind)
    cases m1
    refine ⟨k, rfl, ?_⟩
    have p2 := q1.go o1.ex
    cases k with
    | true => exact p2.go o1.ex _ (.bl _)
    | false => exact ⟨S0, H0, S1, r, o1, p2⟩
theorem de_not (ha : PE X a (tV c G f)) : PE X (.UnaryOp .Not a pos) (tV c G (dNotV f)) := pe_imp (pe_not ha) fun σ H Q ⟨S0, H0, S, r, ok, p⟩ =>
  rd_seq ok p fun d v S1 H1 w1 o1 m1 p1 => by
    obtain ⟨k, rfl, q1⟩ := of_asB (p1.unbind)
    cases m1
    exact ⟨k, rfl, (q1.go o1.ex).go o1.ex _ (.bl _)⟩
def dNil : Rho → Res (List D) := fun _ => .ok []
def dCons (f : Rho → Res D) (g : Rho → Res (List D)) : Rho → Res (List D) := fun r => (f r).bind fun x => (g r).bind fun xs => .ok (x :: xs)
/-- with a mode for each: true, a thing that is only read -/
def RpM (c : Cf) (S H : Hp) : List Bool → List V → List D → Prop
  | [], [], [] => True
  | true :: ms, v :: vs, d :: ds => RpB c.K c.cm S H v d ∧ RpM c S H ms vs ds
  | false :: ms, v :: vs, d :: ds => Rp c.K c.cm S v d ∧ RpM c S H ms vs ds
  | _, _, _ => False
theorem RpM.mono {S H S' H' : Hp} (e : Ex S S') (e' : Ex H H') : ∀ {ms : List Bool} {vs : List V} {ds : List D}, RpM c S H ms vs ds → RpM c S' H' ms vs ds
  | [], [], [], _ => trivial
  | true :: ms, v :: vs, d :: ds, h => ⟨h.1.mono e e', RpM.mono e e' h.2⟩
  | false :: ms, v :: vs, d :: ds, h => ⟨h.1.mono e, RpM.mono e e' h.2⟩
  | [], _ :: _, _, h => h.elim
  | [], [], _ :: _, h => h.elim
  | true :: _, [], _, h => h.elim
  | true :: _, _ :: _, [], h => h.elim
  | false :: _, [], _, h => h.elim
  | false :: _, _ :: _, [], h => h.elim
def mM (c : Cf) (ms : List Bool) : Md (List V) (List D) := fun _ S' H' vs ds => RpM c S' H' ms vs ds
instance {ms : List Bool} : Anti (mM c ms) := ⟨fun _ h => h⟩
abbrev tM (c : Cf) (G : List Ow) (ms : List Bool) (f : Rho → Res (List D)) : TA := rd c G f (mM c ms)
theorem dm_nil : PA X [] (tM c G [] dNil) := pa_imp pa_nil fun σ H Q ⟨S0, H0, S, r, ok, p⟩ => p.go ok.ex _ trivial
theorem dm_bor {ms : List Bool} (ha : PE X e (tR c G f)) (hr : PA X es (tM c G ms fs)) (hs : starEach (e :: es) X.env = (false, eval e X.env) :: starEach es X.env := by rfl) : PA X (e :: es) (tM c G (true :: ms) (dCons f fs)) :=
  pa_imp (pa_cons ha hr hs) fun σ H Q ⟨S0, H0, S, r, ok, p⟩ => rd_seq ok p fun x v S1 H1 w1 o1 m1 p1 => rd_seq o1 p1 fun xs vs S2 H2 w2 o2 m2 p2 => p2.go o2.ex _ ⟨RpB.mono m1 w2.s w2.h, m2⟩
theorem dm_val {ms : List Bool} (ha : PE X e (tV c G f)) (hr : PA X es (tM c G ms fs)) (hs : starEach (e :: es) X.env = (false, eval e X.env) :: starEach es X.env := by rfl) : PA X (e :: es) (tM c G (false :: ms) (dCons f fs)) :=
  pa_imp (pa_cons ha hr hs) fun σ H Q ⟨S0, H0, S, r, ok, p⟩ => rd_seq ok p fun x v S1 H1 w1 o1 m1 p1 => rd_seq o1 p1 fun xs vs S2 H2 w2 o2 m2 p2 => p2.go o2.ex _ ⟨Rp.mono w2.s m1, m2⟩
theorem da_nil : PA X [] (tAs c G dNil) := pa_imp pa_nil fun σ H Q ⟨S0, H0, S, r, ok, p⟩ => p.go ok.ex _ .nil
theorem da_cons (ha : PE X e (tV c G f)) (hr : PA X es (tAs c G fs)) (hs : starEach (e :: es) X.env = (false, eval e X.env) :: starEach es X.env := by rfl) : PA X (e :: es) (tAs c G (dCons f fs)) :=
  pa_imp (pa_cons ha hr hs) fun σ H Q ⟨S0, H0, S, r, ok, p⟩ => rd_seq ok p fun x v S1 H1 w1 o1 m1 p1 => rd_seq o1 p1 fun xs vs S2 H2 w2 o2 m2 p2 => p2.go o2.ex _ (.cons (Rp.mono w2.s m1) m2)
noncomputable def mkTup (ds : List D) : Res D := guard (ds.length ≤ sizeLine) (.ok (.tup ds))
noncomputable def mkLst (ds : List D) : Res D := guard (ds.length ≤ sizeLine) (.ok (.lst ds))
noncomputable def dTup (g : Rho → Res (List D)) : Rho → Res D := fun r => (g r).bind mkTup
noncomputable def dLst (g : Rho → Res (List D)) : Rho → Res D := fun r => (g r).bind mkLst
theorem de_tup {k : Nat} (h : PA X es (tAs c G fs)) : PE X (.Tuple es k pos) (tV c G (dTup fs)) := pe_imp (pe_tup h) fun σ H Q ⟨S0, H0, S, r, ok, p⟩ => rd_seq ok p fun ds vs S1 H1 w1 o1 m1 p1 => by
  obtain ⟨hl, p1⟩ := p1.gd
  exact ⟨by rw [RpA.length m1]; exact hl, fun q hq => p1.laid o1.ex hq (.tup upd_same (RpA.mono (Ex.new (o1.ex.nn hq)) m1))⟩
theorem de_lst (h : PA X es (tAs c G fs)) : PE X (.List es pos) (tO c G (dLst fs)) := pe_imp (pe_lst h) fun σ H Q ⟨S0, H0, S, r, ok, p⟩ => rd_seq ok p fun ds vs S1 H1 w1 o1 m1 p1 => by
  obtain ⟨hl, p1⟩ := p1.gd
  exact ⟨by rw [RpA.length m1]; exact hl, fun q hq => (p1.anti w1.h).kept o1.ex hq (.lst m1)⟩
def CallS (c : Cf) (R : Md V D) (r : List V → Hp → VK → Prop) (ms : List Bool) (g : List D → Res D) : Prop := ∀ (σ : St) (S H : Hp) (vs : List V) (ds : List D) (Q : VK), Ex S H → RpM c S H ms vs ds →
  PostG c σ S H (g ds) (fun a S' H' => ∀ b, R H S' H' b a → Q b H') → r vs H Q
def dCall (g : List D → Res D) (fs : Rho → Res (List D)) : Rho → Res D := fun r => (fs r).bind g
theorem de_bltn {R : Md V D} [Anti R] {x : Str} {id : String} {ms : List Bool} {r : List V → Hp → VK → Prop} {g : List D → Res D} (hc : CallR X (.builtin id) r) (hs : CallS c R r ms g) (hg : Gl X x) (hm : X.mg x = none) (hv : bootBuiltins x = some (.builtin id)) (ha : PA X (e :: es) (tM c G ms fs))
    (hn : x ≠ "__name__" := by decide) (hdb : (x == ("__debug__" : Str)) = false := by decide) (he : starEach (e :: es) X.env = (false, eval e X.env) :: starEach es X.env := by rfl) (hpl : (backTo pos (starEach es X.env)).any (·.1) = false := by rfl) :
    PE X (.Call (.Name x p) (e :: es) [] pos) (rd c G (dCall g fs) R) := pe_imp (pe_callB hc hg hm hv ha hn hdb he hpl) fun σ H Q ⟨S0, H0, S, r, ok, p⟩ => rd_seq ok p fun ds vs S1 H1 w1 o1 m1 p1 => hs σ S1 H1 vs ds Q o1.ex m1 (p1.anti w1.h)
theorem de_type {R : Md V D} [Anti R] {x : Str} {T : String} {ms : List Bool} {r : List V → Hp → VK → Prop} {g : List D → Res D} (hc : CallR X (.type T) r) (hs : CallS c R r ms g) (hg : Gl X x) (hm : X.mg x = none) (hv : bootBuiltins x = some (.type T)) (ha : PA X (e :: es) (tM c G ms fs))
    (hn : x ≠ "__name__" := by decide) (hdb : (x == ("__debug__" : Str)) = false := by decide) (he : starEach (e :: es) X.env = (false, eval e X.env) :: starEach es X.env := by rfl) (hpl : (backTo pos (starEach es X.env)).any (·.1) = false := by rfl) :
    PE X (.Call (.Name x p) (e :: es) [] pos) (rd c G (dCall g fs) R) := pe_imp (pe_callTy hc hg hm hv ha hn hdb he hpl) fun σ H Q ⟨S0, H0, S, r, ok, p⟩ => rd_seq ok p fun ds vs S1 H1 w1 o1 m1 p1 => hs σ S1 H1 vs ds Q o1.ex m1 (p1.anti w1.h)
theorem RpM.one {S H : Hp} {vs : List V} {ds : List D} (h : RpM c S H [true] vs ds) : ∃ v d, vs = [v] ∧ ds = [d] ∧ RpB c.K c.cm S H v d := by
  match vs, ds, h with
  | [v], [d], h => exact ⟨v, d, rfl, rfl, h.1⟩
  | _ :: _ :: _, [_], h => exact h.2.elim
  | [_], _ :: _ :: _, h => exact h.2.elim
  | _ :: _ :: _, _ :: _ :: _, h => exact h.2.elim
  | [], _, h => exact h.elim
  | _ :: _, [], h => exact h.elim
theorem RpM.two {S H : Hp} {vs : List V} {ds : List D} (h : RpM c S H [true, true] vs ds) : ∃ v w d e, vs = [v, w] ∧ ds = [d, e] ∧ RpB c.K c.cm S H v d ∧ RpB c.K c.cm S H w e := by
  match vs, ds, h with
  | v :: vs, d :: ds, h =>
    obtain ⟨w, e, rfl, rfl, h2⟩ := RpM.one h.2
    exact ⟨v, w, d, e, rfl, rfl, h.1, h2⟩
  | [], _, h => exact h.elim
  | _ :: _, [], h => exact h.elim
/-- len -/
noncomputable def lenD : D → Res D
  | .str z => guard (z.length ≤ sizeLine) (.ok (.int z.length))
  | .lst ds => .ok (.int ds.length)
  | .fz ds => .ok (.int ds.length)
  | .tup ds => .ok (.int ds.length)
  | .kt ds => .ok (.int ds.length)
  | _ => .bad
def g1 (g : D → Res D) : List D → Res D
  | [d] => g d
  | _ => .bad
def g2 (g : D → D → Res D) : List D → Res D
  | [d, e] => g d e
  | _ => .bad
theorem cs_len : CallS c (mV c) (fun xs H Q => ∃ x n, xs = [x] ∧ LenV c.K x H n ∧ Q (.int n) H) [true] (g1 lenD) := by
  intro σ S H vs ds Q ex m p
  obtain ⟨v, d, rfl, rfl, h⟩ := m.one
  cases d with
  | str z =>
    obtain ⟨hl, p⟩ := p.gd
    cases h.str
    exact ⟨_, _, rfl, ⟨hl, rfl⟩, p.here ex (.int _)⟩
  | lst ds =>
    obtain ⟨q, xs, rfl, a1, r1⟩ := h.list ex
    exact ⟨_, _, rfl, .inl ⟨xs, .inl (.inl a1), r1.length.symm⟩, p.here ex (.int _)⟩
  | fz ds =>
    obtain ⟨q, xs, rfl, a1, r1⟩ := h.fz ex
    exact ⟨_, _, rfl, .inl ⟨xs, a1, r1.length.symm⟩, p.here ex (.int _)⟩
  | tup ds =>
    obtain ⟨q, xs, rfl, a1, r1, s1⟩ := h.tup ex
    exact ⟨_, _, rfl, .inr ⟨xs, a1, r1.length.symm⟩, p.here ex (.int _)⟩
  | kt ds =>
    obtain ⟨q, xs, rfl, a1, r1, s1⟩ := h.kt ex
    exact ⟨_, _, rfl, .inr ⟨xs, a1, r1.length.symm⟩, p.here ex (.int _)⟩
  | _ => exact p.elim
/-- int(..) -/
noncomputable def intD : D → Res D
  | .int i => .ok (.int i)
  | .bl k => .ok (.int (if k then 1 else 0))
  | .str a => match PySem.intText? a with
    | some n => guard (a.length ≤ 640) (.ok (.int n))
    | none => .bad
  | _ => .bad
def rIntX : List V → Hp → VK → Prop := fun xs H Q => ((∃ i, xs = [.int i] ∧ Q (.int i) H) ∨ ∃ k, xs = [.bl k] ∧ Q (.int (if k then 1 else 0)) H) ∨ ∃ a n, xs = [.str a] ∧ PySem.intText? a = some n ∧ a.length ≤ 640 ∧ Q (.int n) H
theorem cr_int : CallR X (.type "int") rIntX := call_int1.or call_int_str
theorem cs_int : CallS c (mV c) rIntX [true] (g1 intD) := by
  intro σ S H vs ds Q ex m p
  obtain ⟨v, d, rfl, rfl, h⟩ := m.one
  cases d with
  | int i => cases h.int; exact .inl (.inl ⟨_, rfl, p.here ex (.int _)⟩)
  | bl k => cases h.bl; exact .inl (.inr ⟨_, rfl, p.here ex (.int _)⟩)
  | str a =>
    cases h.str
    unfold g1 intD at p
    dsimp only at p
    split at p
    · rename_i n hn
      obtain ⟨hl, p⟩ := p.gd
      exact .inr ⟨_, n, rfl, hn, hl, p.here ex (.int _)⟩
    · exact p.elim
  | _ => exact p.elim
def absD : D → Res D
  | .int i => .ok (.int (if i < 0 then -i else i))
  | _ => .bad
theorem cs_ints2 {g : Int → Int → Int} : CallS c (mV c) (fun xs H Q => ∃ i j, xs = [.int i, .int j] ∧ Q (.int (g i j)) H) [true, true] (g2 (intsD g)) := by
  intro σ S H vs ds Q ex m p
  obtain ⟨v, w, d, e, rfl, rfl, h, h'⟩ := m.two
  unfold g2 intsD at p
  dsimp only at p
  split at p
  · cases h.int; cases h'.int; exact ⟨_, _, rfl, p.here ex (.int _)⟩
  · exact p.elim
abbrev max2 (i j : Int) : Int := if j > i then j else i
/-- list(..), tuple(..) -/
def itemsL : D → Res (List D)
  | .lst ds => .ok ds
  | .fz ds => .ok ds
  | _ => .bad
def itemsT : D → Res (List D)
  | .tup ds => .ok ds
  | _ => .bad
def items : D → Res (List D)
  | .lst ds => .ok ds
  | .fz ds => .ok ds
  | .tup ds => .ok ds
  | _ => .bad
def listD (d : D) : Res D := match d with
  | .kt ds => .ok (.lst ds)
  | d => (items d).bind fun ds => .ok (.lst ds)
theorem cs_list : CallS c (mO c) (fun xs H Q => ∃ p ys, xs = [.ref p] ∧ (SqL c.K H p ys ∨ SqT c.K H p ys) ∧ ∀ l, H l = none → Q (.ref l) (upd H l (.lst ys))) [true] (g1 listD) := by
  intro σ S H vs ds Q ex m p
  obtain ⟨v, d, rfl, rfl, h⟩ := m.one
  cases d with
  | lst ds =>
    obtain ⟨q, xs, rfl, a1, r1⟩ := h.list ex
    exact ⟨q, xs, rfl, .inl (.inl (.inl a1)), fun l hl => p.kept ex hl (.lst r1)⟩
  | fz ds =>
    obtain ⟨q, xs, rfl, a1, r1⟩ := h.fz ex
    exact ⟨q, xs, rfl, .inl a1, fun l hl => p.kept ex hl (.lst r1)⟩
  | tup ds =>
    obtain ⟨q, xs, rfl, a1, r1, s1⟩ := h.tup ex
    exact ⟨q, xs, rfl, .inr a1, fun l hl => p.kept ex hl (.lst r1)⟩
  | kt ds =>
    obtain ⟨q, xs, rfl, a1, r1, s1⟩ := h.kt ex
    exact ⟨q, xs, rfl, .inr a1, fun l hl => p.kept ex hl (.lst r1)⟩
  | _ => exact p.elim
def tupleD (d : D) : Res D := (items d).bind fun ds => .ok (.tup ds)
theorem cs_tuple : CallS c (mV c) (fun xs H Q => ∃ p ys, xs = [.ref p] ∧ ((SqL c.K H p ys ∧ ∀ l, H l = none → Q (.ref l) (upd H l (.tup ys))) ∨ (SqT c.K H p ys ∧ Q (.ref p) H))) [true] (g1 tupleD) := by
  intro σ S H vs ds Q ex m p
  obtain ⟨v, d, rfl, rfl, h⟩ := m.one
  cases d with
  | lst ds =>
    obtain ⟨q, xs, rfl, a1, r1⟩ := h.list ex
    exact ⟨q, xs, rfl, .inl ⟨.inl (.inl a1), fun l hl => p.laid ex hl (.tup upd_same (r1.mono (Ex.new (ex.nn hl))))⟩⟩
  | fz ds =>
    obtain ⟨q, xs, rfl, a1, r1⟩ := h.fz ex
    exact ⟨q, xs, rfl, .inl ⟨a1, fun l hl => p.laid ex hl (.tup upd_same (r1.mono (Ex.new (ex.nn hl))))⟩⟩
  | tup ds =>
    obtain ⟨q, xs, rfl, a1, r1, s1⟩ := h.tup ex
    exact ⟨q, xs, rfl, .inr ⟨a1, p.here ex (.tup s1 r1)⟩⟩
  | _ => exact p.elim
/-- str(n), str(text) is not here: see part T -/
noncomputable def strD : D → Res D
  | .int i => guard (i.natAbs.log2 < 1920) (.ok (.str (toString i)))
  | _ => .bad
def tyN : D → Option String
  | .non => some "NoneType"
  | .bl _ => some "bool"
  | .int _ => some "int"
  | .str _ => some "str"
  | .lst _ => some "list"
  | .fz _ => some "list"
  | .tup _ => some "tuple"
  | .kt _ => some "tuple"
  | .dk _ _ => some "dict"
  | .dt _ _ => none
  | .obj _ _ _ => none
  | .own _ => none
  | .st _ _ => none
def isiD (T : String) (d : D) : Res D := match tyN d with
  | some n => match kitB n T with
    | some b => .ok (.bl b)
    | none => .bad
  | none => .bad
theorem RpB.ty {K : PySem.W.Frag} {cm : CM} {S H : Hp} {v : V} {d : D} {n : String} (h : RpB K cm S H v d) (ex : Ex S H) (q : tyN d = some n) : TyX K H v (.type n) := by
  cases d with
  | non => cases h.non; cases q; exact .base .non
  | bl b => cases h.bl; cases q; exact .base (.bl b)
  | int i => cases h.int; cases q; exact .base (.int i)
  | str s => cases h.str; cases q; exact .base (.str s)
  | lst ds => obtain ⟨p, xs, rfl, a, r⟩ := h.list ex; cases q; exact .base (.lst a)
  | fz ds =>
    obtain ⟨p, xs, rfl, a, r⟩ := h.fz ex; cases q
    rcases a with (a | ⟨o, a⟩) | ⟨o, its, m, a1, a2, _⟩
    · exact .base (.lst a)
    · exact .base (.frz a)
    · exact .kList a1 a2
  | tup ds =>
    obtain ⟨p, xs, rfl, a, r, s⟩ := h.tup ex; cases q
    rcases a with (a | ⟨o, a⟩) | ⟨o, its, m, a1, a2, _⟩
    · exact .base (.tup a)
    · exact .fTuple a
    · exact .kTuple a1 a2
  | dk ks vs =>
    obtain ⟨p, xs, rfl, a, r⟩ := h.dk ex; cases q
    rcases a with a | ⟨o, a⟩
    · exact .base (.dK a)
    · exact .fDict a
  | dt ks vs => cases q
  | kt ds =>
    obtain ⟨p, xs, rfl, a, r, s⟩ := h.kt ex; cases q
    rcases a with (a | ⟨o, a⟩) | ⟨o, its, m, a1, a2, _⟩
    · exact .base (.tup a)
    · exact .fTuple a
    · exact .kTuple a1 a2
  | obj n ns vs => cases q
  | own k => cases q
  | st k M => cases q
/-- the class's name is a built-in's that stands as it was -/
theorem de_isi {x : Str} {pT : Pos} (T : String) (hm : X.mg "isinstance" = none) (hg : Gl X "isinstance") (gT : Gl X x) (mT : X.mg x = none) (bT : bootBuiltins x = some (.type T)) (ha : PE X e (tR c G f)) (hK : c.K = X.K := by rfl)
    (hn : x ≠ "__name__" := by decide) (hd : (x == ("__debug__" : Str)) = false := by decide)
    (hs1 : starEach [e, .Name x pT] X.env = (false, eval e X.env) :: starEach [.Name x pT] X.env := by rfl) (hs2 : starEach [.Name x pT] X.env = (false, eval (.Name x pT) X.env) :: starEach [] X.env := by rfl) (hpl : (backTo pos (starEach [.Name x pT] X.env)).any (·.1) = false := by rfl) :
    PE X (.Call (.Name "isinstance" p) [e, .Name x pT] [] pos) (tV c G (dUn (isiD T) f)) := by
  have hT : PE X (.Name x pT) (tC (.ty T)) := pe_bltn gT mT bT rfl hn hd
  refine pe_imp (pe_callB call_isi hg hm (by decide +kernel) (pa_cons ha (pa_cons hT pa_nil hs2) hs1) (he := hs1) (hpl := hpl)) fun σ H Q ⟨S0, H0, S, r, ok, p⟩ => rd_seq ok p fun d v S1 H1 w1 o1 m1 p1 => ?_
  unfold isiD at p1
  split at p1
  · rename_i n hn
    split at p1
    · rename_i b hb
      exact ⟨v, .ty T, .type n, .type T, b, rfl, .ty T, by rw [← hK]; exact RpB.ty m1 o1.ex hn, kit_ty hb, p1.go o1.ex _ (.bl _)⟩
    · exact p1.elim
  · exact p1.elim
noncomputable def ixD : D → D → Res D
  | .lst ds, .int i => match atI ds i with
    | some d => .ok d
    | none => .bad
  | .fz ds, .int i => match atI ds i with
    | some d => .ok d
    | none => .bad
  | .tup ds, .int i => match atI ds i with
    | some d => .ok d
    | none => .bad
  | .kt ds, .int i => match atI ds i with
    | some d => .ok d
    | none => .bad
  | .str z, .int i => guard (z.length ≤ sizeLine) (match atI z.cps.toList i with
    | some n => .ok (.str ⟨#[n]⟩)
    | none => .bad)
  | _, _ => .bad
theorem RpA.atI {K : PySem.W.Frag} {cm : CM} {S : Hp} {xs : List V} {ds : List D} {i : Int} {d : D} (h : RpA K cm S xs ds) (q : atI ds i = some d) : ∃ v, L2.atI xs i = some v ∧ Rp K cm S v d := by
  unfold L2.atI at q ⊢
  rw [h.length]
  cases hj : ixN ds.length i with
  | none => rw [hj] at q; cases q
  | some j => rw [hj] at q; exact h.get q
theorem os_ix : OpS c (mV c) (rIx c.K) ixD := by
  intro σ S H x y d e Q ex hx hy p
  unfold ixD at p
  split at p
  · split at p
    · rename_i hd
      obtain ⟨q, xs, rfl, a1, r1⟩ := hx.list ex
      cases hy.int
      obtain ⟨v, h1, h2⟩ := r1.atI hd
      exact .inl ⟨q, xs, _, v, rfl, rfl, .inl (.inl a1), h1, p.here ex h2⟩
    · exact p.elim
  · split at p
    · rename_i hd
      obtain ⟨q, xs, rfl, a1, r1⟩ := hx.fz ex
      cases hy.int
      obtain ⟨v, h1, h2⟩ := r1.atI hd
      exact .inl ⟨q, xs, _, v, rfl, rfl, a1, h1, p.here ex h2⟩
    · exact p.elim
  · split at p
    · rename_i hd
      obtain ⟨q, xs, rfl, a1, r1, s1⟩ := hx.tup ex
      cases hy.int
      obtain ⟨v, h1, h2⟩ := r1.atI hd
      exact .inr (.inl ⟨q, xs, _, v, rfl, rfl, a1, h1, p.here ex h2⟩)
    · exact p.elim
  · split at p
    · rename_i hd
      obtain ⟨q, xs, rfl, a1, r1, s1⟩ := hx.kt ex
      cases hy.int
      obtain ⟨v, h1, h2⟩ := r1.atI hd
      exact .inr (.inl ⟨q, xs, _, v, rfl, rfl, a1, h1, p.here ex h2⟩)
    · exact p.elim
  · obtain ⟨hl, p⟩ := p.gd
    cases hx.str; cases hy.int
    split at p
    · rename_i hd
      exact .inr (.inr ⟨_, _, _, rfl, rfl, hl, hd, p.here ex (.str _)⟩)
    · exact p.elim
  · exact p.elim
theorem de_ix (ha : PE X a (tR c G f1)) (hb : PE X b (tR c G f2)) (hs : PlainIx b) (hK : c.K = X.K := by rfl) : PE X (.Subscript a b pos) (tV c G (dOp ixD f1 f2)) :=
  pe_imp (pe_ix ix_seq ha hb hs) (by rw [← hK]; exact op_rd os_ix)
def cutL {α : Type} (xs : List α) (lo hi : Option Int) : List α := (xs.drop (HT.sIx xs.length 0 lo)).take (HT.sIx xs.length xs.length hi - HT.sIx xs.length 0 lo)
def asI : D → Res Int
  | .int i => .ok i
  | _ => .bad
def dNoP : Rho → Res (Option Int) := fun _ => .ok none
def dPart (f : Rho → Res D) : Rho → Res (Option Int) := fun r => (f r).bind fun d => (asI d).bind fun i => .ok (some i)
theorem po_imp {oe : Option Expr} {t t' : TO} (h : PO X oe t) (k : ∀ σ H Q, t' σ H Q → t σ H Q) : PO X oe t' := ⟨fun pins s σ H Q I q => h.run pins s σ H Q I (k σ H Q q)⟩
abbrev tP (c : Cf) (G : List Ow) (f : Rho → Res (Option Int)) : TO := rd c G f (mE (Option Int))
theorem dp_none : PO X none (tP c G dNoP) := po_imp po_none fun σ H Q ⟨S0, H0, S, r, ok, p⟩ => p.go ok.ex _ rfl
theorem of_asI {σ : St} {S H : Hp} {d : D} {k : Int → Hp → Hp → Prop} (p : PostG c σ S H (asI d) k) : ∃ i, d = .int i ∧ PostG c σ S H (.ok i) k := by
  cases d with
  | int i => exact ⟨i, rfl, p⟩
  | _ => exact p.elim
theorem dp_some (h : PE X e (tV c G f)) : PO X (some e) (tP c G (dPart f)) := po_imp (po_some h) fun σ H Q ⟨S0, H0, S, r, ok, p⟩ => rd_seq ok p fun d v S1 H1 w1 o1 m1 p1 => by
  obtain ⟨i, rfl, q1⟩ := of_asI p1.unbind
  cases m1
  exact ⟨i, rfl, (q1.go o1.ex).go o1.ex _ rfl⟩
variable {fl fh : Rho → Res (Option Int)} {lo hi : Option Expr} {p2 : Pos}
noncomputable def slD (d : D) (lo hi : Option Int) : Res D := match d with
  | .lst ds => .ok (.lst (cutL ds lo hi))
  | .fz ds => .ok (.lst (cutL ds lo hi))
  | .tup ds => .ok (.tup (cutL ds lo hi))
  | .str z => guard (z.length ≤ sizeLine) (.ok (.str (cutS z lo hi)))
  | _ => .bad
def dSl (g : D → Option Int → Option Int → Res D) (f : Rho → Res D) (fl fh : Rho → Res (Option Int)) : Rho → Res D := fun r => (f r).bind fun d => (fl r).bind fun l => (fh r).bind fun h => g d l h
def rSlX (K : PySem.W.Frag) : V → Option Int → Option Int → Hp → VK → Prop := fun x lo hi H Q => rSlL K x lo hi H Q ∨ rSlA K x lo hi H Q ∨ rSlS x lo hi H Q
theorem sl_x : SlR X (rSlX X.K) := sl_list.or (sl_tupA.or sl_str)
theorem RpA.cut {K : PySem.W.Frag} {cm : CM} {S : Hp} {xs : List V} {ds : List D} {lo hi : Option Int} (h : RpA K cm S xs ds) : RpA K cm S (cutV xs lo hi) (cutL ds lo hi) := by
  unfold cutV cutL
  rw [h.length]
  exact (h.drop _).take _
theorem cutV_whole {xs : List V} {lo hi : Option Int} (h : HT.sIx xs.length 0 lo = 0 ∧ HT.sIx xs.length xs.length hi = xs.length) : cutV xs lo hi = xs := by
  unfold cutV
  rw [h.1, h.2]
  simp
theorem de_sl (ha : PE X a (tR c G f)) (hl : PO X lo (tP c G fl)) (hh : PO X hi (tP c G fh)) (hK : c.K = X.K := by rfl) : PE X (.Subscript a (.Slice lo hi none p2) pos) (tV c G (dSl slD f fl fh)) :=
  pe_imp (pe_slice sl_x ha hl hh) fun σ H Q ⟨S0, H0, S, r, ok, p⟩ => rd_seq ok p fun d v S1 H1 w1 o1 m1 p1 => rd_seq o1 p1 fun l l' S2 H2 w2 o2 m2 p2 => rd_seq o2 p2 fun h h' S3 H3 w3 o3 m3 p3 => by
    have m1 := RpB.mono m1 (w2.s.trans w3.s) (w2.h.trans w3.h)
    rw [show l' = l from m2, show h' = h from m3, ← hK]
    cases d with
    | lst ds =>
      obtain ⟨q, xs, rfl, a1, r1⟩ := m1.list o3.ex
      exact .inl ⟨q, xs, rfl, .inl (.inl a1), fun q hq => PostG.laid p3 o3.ex hq (.lst upd_same (r1.cut.mono (Ex.new (o3.ex.nn hq))))⟩
    | fz ds =>
      obtain ⟨q, xs, rfl, a1, r1⟩ := m1.fz o3.ex
      exact .inl ⟨q, xs, rfl, a1, fun q hq => PostG.laid p3 o3.ex hq (.lst upd_same (r1.cut.mono (Ex.new (o3.ex.nn hq))))⟩
    | tup ds =>
      obtain ⟨q, xs, rfl, a1, r1, s1⟩ := m1.tup o3.ex
      refine .inr (.inl ⟨q, xs, rfl, a1, fun hw => p3.go o3.ex _ (.tup s1 ?_), fun _ q hq => PostG.laid p3 o3.ex hq (.tup upd_same (r1.cut.mono (Ex.new (o3.ex.nn hq))))⟩)
      have := r1.cut (lo := l) (hi := h)
      rw [cutV_whole hw] at this
      exact this
    | str z =>
      obtain ⟨hl, p3⟩ := p3.gd
      cases m1.str
      exact .inr (.inr ⟨z, rfl, hl, p3.go o3.ex _ (.str _)⟩)
    | _ => exact p3.elim
/-- a slice of a list, the new list one's own -/
def slL (d : D) (lo hi : Option Int) : Res D := match d with
  | .lst ds => .ok (.lst (cutL ds lo hi))
  | .fz ds => .ok (.lst (cutL ds lo hi))
  | _ => .bad
end
end Dx
end S_DxD
section S_DxE
set_option Elab.async false
set_option linter.all false
set_option maxRecDepth 100000
set_option maxHeartbeats 2000000
namespace Dx
open PySem L2
/-- what is wanted behind a statement -/
def PostS (c : Cf) (S0 H0 : Hp) (L G' : List Ow) (o : SR) (E : Ends) : Prop :=
  match o with
  | .nx r => ∀ σ' S' H', EnvOk c S0 H0 G' S' H' σ' r → E.nx σ' H'
  | .rt d => if c.rm then ∀ p ho S' H', Fwd S0 H0 S' H' → H0 p = none → S' p = none → H' p = some ho → RpO c.K c.cm S' ho d → E.rt (.ref p) H'
      else ∀ v S' H', Fwd S0 H0 S' H' → Rp c.K c.cm S' v d → E.rt v H'
  | .bk r => ∀ σ' S' H', EnvOk c S0 H0 L S' H' σ' r → E.bk σ' H'
  | .ct r => ∀ σ' S' H', EnvOk c S0 H0 L S' H' σ' r → E.ct σ' H'
  | .er r n ns vs => ∀ C dd σ' S' H' fs, c.cm n = some C → Fwd S0 H0 S' H' → (∀ g, c.ge = some g → EnvOk c S0 H0 g S' H' σ' r) → S' dd = some (.xd fs) → ns = fs.map (·.1) → RpA c.K c.cm S' (fs.map (·.2)) vs → c.W (.ref C) (some dd) σ' H'
  | .bad => False
def sD (c : Cf) (L G G' : List Ow) (F : Rho → SR) : TS := fun E σ H => ∃ S0 H0 S r, EnvOk c S0 H0 G S H σ r ∧ PostS c S0 H0 L G' (F r) E
def liftS {α : Type} (r : Rho) (x : Res α) (k : α → SR) : SR := match x with
  | .ok a => k a
  | .err n ns vs => .er r n ns vs
  | .bad => .bad
/-- where a try's clauses ask for the slots, the kinds are the ones told -/
def Gok (c : Cf) (G : List Ow) : Prop := ∀ g, c.ge = some g → g = G
section
variable {X : Cx} {c : Cf} {L G G' G'' : List Ow} {σ : St} {S0 H0 S H : Hp} {r : Rho} {α β : Type} {E : Ends}
theorem st_seq {f : Rho → Res α} {R : Md β α} (hg : Gok c G) (e : EnvOk c S0 H0 G S H σ r) {k : α → SR} (p : PostS c S0 H0 L G' (liftS r (f r) k) E) {Q : β → Hp → Prop}
    (h : ∀ a b S' H', Fwd S H S' H' → EnvOk c S0 H0 G S' H' σ r → R H S' H' b a → PostS c S0 H0 L G' (k a) E → Q b H') : rd c G f R σ H Q := by
  refine ⟨S0, H0, S, r, e, ?_⟩
  cases hf : f r with
  | ok a => rw [hf] at p; exact fun S' H' fw b hb => h a b S' H' fw (e.go fw) hb p
  | err n ns vs =>
    rw [hf] at p
    exact fun C dd S' H' fs h1 fw h2 h3 h4 => p C dd σ S' H' fs h1 (e.fwd.trans fw) (fun g q => by rw [hg g q]; exact e.go fw) h2 h3 h4
  | bad => rw [hf] at p; exact p.elim
/-- the stable part as the new base -/
theorem EnvOk.rebase (e : EnvOk c S0 H0 G S H σ r) : EnvOk c S H0 G S H σ r := ⟨⟨Ex.refl, e.fwd.h, e.fwd.sub, fun a o h n => by rw [n] at h; cases h⟩, e.len, e.slot, e.sep, e.sto⟩
theorem Fwd.unbase {S' H' : Hp} (f : Fwd S0 H0 S H) (g : Fwd S H0 S' H') : Fwd S0 H0 S' H' := ⟨f.s.trans g.s, g.h, g.sub, fun a o h n => by
  cases q : S a with
  | some u => exact f.new a u q n
  | none => exact g.new a o h q⟩
theorem EnvOk.unbase {S' H' : Hp} {σ' : St} {r' : Rho} (f : Fwd S0 H0 S H) (e : EnvOk c S H0 G' S' H' σ' r') : EnvOk c S0 H0 G' S' H' σ' r' := ⟨f.unbase e.fwd, e.len, e.slot, e.sep, e.sto⟩
theorem PostS.rebase {o : SR} (f : Fwd S0 H0 S H) (p : PostS c S0 H0 L G' o E) : PostS c S H0 L G' o E := by
  cases o with
  | nx r => exact fun σ' S' H' e => p σ' S' H' (e.unbase f)
  | rt d =>
    unfold PostS at p ⊢
    dsimp only at p ⊢
    split
    · rename_i h
      rw [if_pos h] at p
      exact fun q ho S' H' w => p q ho S' H' (f.unbase w)
    · rename_i h
      rw [if_neg h] at p
      exact fun v S' H' w => p v S' H' (f.unbase w)
  | bk r => exact fun σ' S' H' e => p σ' S' H' (e.unbase f)
  | ct r => exact fun σ' S' H' e => p σ' S' H' (e.unbase f)
  | er r n ns vs => exact fun C dd σ' S' H' fs h1 w h2 => p C dd σ' S' H' fs h1 (f.unbase w) fun g q => (h2 g q).unbase f
  | bad => exact p
def seqF (F K : Rho → SR) : Rho → SR := fun r => match F r with
  | .nx r' => K r'
  | o => o
theorem ds_nil : PSs X [] (sD c L G G .nx) := pss_imp pss_nil fun E σ H ⟨S0, H0, S, r, ok, p⟩ => p σ S H ok
theorem ds_cons {st : Stmt} {rest : List Stmt} {F K : Rho → SR} (h1 : PS X st (sD c L G G' F)) (h2 : PSs X rest (sD c L G' G'' K)) : PSs X (st :: rest) (sD c L G G'' (seqF F K)) := pss_imp (pss_cons h1 h2) fun E σ H ⟨S0, H0, S, r, ok, p⟩ => by
  refine ⟨S0, H0, S, r, ok, ?_⟩
  unfold seqF at p
  cases hF : F r with
  | nx r' => rw [hF] at p; exact fun σ' S' H' e => ⟨S0, H0, S', r', e, p⟩
  | rt d => rw [hF] at p; exact p
  | bk r' => rw [hF] at p; exact p
  | ct r' => rw [hF] at p; exact p
  | er r' n ns vs => rw [hF] at p; exact p
  | bad => rw [hF] at p; exact p.elim
theorem ds_one {st : Stmt} {F : Rho → SR} (h1 : PS X st (sD c L G G' F)) : PSs X [st] (sD c L G G' F) := pss_one h1
/-- an own object becomes a value, ahead of a block; behind one -/
theorem EnvOk.pubL (e : EnvOk c S0 H0 G S H σ r) (i : Nat) (hk : kd G i = .o ∨ kd G i = .v) : Lo (fun H => ∃ S', EnvOk c S0 H0 (G.set i .v) S' H σ r) H := by
  by_cases h : kd G i = .o ∧ ∃ d, r[i]? = some (some d) ∧ isDct d = true
  · obtain ⟨k, d, h1, h2⟩ := h
    exact .inr (e.pubD i k h1 h2)
  · by_cases k : kd G i = .o
    · exact .inl (e.pub i hk fun d hd => by
        cases q : isDct d with
        | false => rfl
        | true => exact (h ⟨k, d, hd, q⟩).elim)
    · have k' : kd G i = .v := hk.resolve_left k
      have all : ∀ j, kd (G.set i .v) j = kd G j := fun j => by
        by_cases ne : i = j
        · subst ne; rw [kd_set_self, k']
        · exact kd_set_ne ne
      exact .inl ⟨S, e.fwd, e.len, fun j b hb => by rw [all]; exact e.slot j b hb, fun j l b b' q hj hk kj kk sj sk => e.sep j l b b' q hj hk ((all j) ▸ kj) ((all l) ▸ kk) sj sk, e.sto_un i hk⟩
theorem Lo.imp {Q R : Hp → Prop} {H : Hp} (h : Lo Q H) (k : ∀ H, Q H → R H) : Lo R H := by
  rcases h with h | ⟨p, u, h1, h2, h⟩
  · exact .inl (k _ h)
  · exact .inr ⟨p, u, h1, h2, fun w => k _ (h w)⟩
theorem ds_pub {sts : List Stmt} {F : Rho → SR} (i : Nat) (h : PSs X sts (sD c L (G.set i .v) G' F)) (hk : kd G i = .o ∨ kd G i = .v) : PSs X sts (sD c L G G' F) := pss_lock h fun E σ H ⟨S0, H0, S, r, ok, p⟩ =>
  (ok.pubL i hk).imp fun H' ⟨S', ok'⟩ => ⟨S0, H0, S', r, ok', p⟩
theorem ds_pubE {sts : List Stmt} {F : Rho → SR} (i : Nat) (h : PSs X sts (sD c L G G' F)) (hk : kd G' i = .o ∨ kd G' i = .v) : PSs X sts (sD c L G (G'.set i .v) F) := pss_lockE h fun E σ H ⟨S0, H0, S, r, ok, p⟩ => by
  refine ⟨S0, H0, S, r, ok, ?_⟩
  cases hF : F r with
  | nx r' =>
    rw [hF] at p
    exact fun σ' S' H' e => (e.pubL i hk).imp fun H'' ⟨S'', e'⟩ => p σ' S'' H'' e'
  | rt d => rw [hF] at p; exact p
  | bk r' => rw [hF] at p; exact p
  | ct r' => rw [hF] at p; exact p
  | er r' n ns vs => rw [hF] at p; exact p
  | bad => rw [hF] at p; exact p.elim
variable {e : Expr} {pos : Pos} {f : Rho → Res D}
def setF (i : Nat) (f : Rho → Res D) : Rho → SR := fun r => liftS r (f r) fun d => .nx (r.set i (some d))
/-- x = e -/
theorem ds_set (i : Nat) {x : Str} {pos' : Pos} (hg : Gok c G) (hN : X.N.Nodup) (hi : X.N[i]? = some x) (hx : Loc X.env.scope x) (he : PE X e (tV c G f)) (hs : swapsWith e (some (.Name x pos')) pos.line X.env = pure false := by rfl)
    (hf : X.fn x = true ∨ X.env.scope.names.lookup x = some .local := by first | exact .inl rfl | exact .inr rfl | assumption) : PS X (.Assign [.Name x pos'] e pos) (sD c L G (G.set i .v) (setF i f)) :=
  ps_imp (ps_set hN hi hx he hs hf) fun E σ H ⟨S0, H0, S, r, ok, p⟩ => st_seq hg ok p fun d v S1 H1 w1 o1 m1 p1 => p1 _ S1 H1 (o1.setV i m1)
/-- x = e, a new object of one's own -/
theorem ds_setO (i : Nat) {x : Str} {pos' : Pos} (hg : Gok c G) (hG : i < G.length) (hN : X.N.Nodup) (hi : X.N[i]? = some x) (hx : Loc X.env.scope x) (he : PE X e (tO c G f)) (hs : swapsWith e (some (.Name x pos')) pos.line X.env = pure false := by rfl)
    (hf : X.fn x = true ∨ X.env.scope.names.lookup x = some .local := by first | exact .inl rfl | exact .inr rfl | assumption) : PS X (.Assign [.Name x pos'] e pos) (sD c L G (G.set i .o) (setF i f)) :=
  ps_imp (ps_set hN hi hx he hs hf) fun E σ H ⟨S0, H0, S, r, ok, p⟩ => st_seq hg ok p fun d v S1 H1 w1 o1 m1 p1 => by
    obtain ⟨q, ho, rfl, n, ns, hp, h⟩ := m1
    exact p1 _ S1 H1 (ok.setO w1 i hG n ns hp h)
def retF (f : Rho → Res D) : Rho → SR := fun r => liftS r (f r) .rt
theorem ds_ret (hg : Gok c G) (hr : c.rm = false) (he : PE X e (tV c G f)) : PS X (.Return (some e) pos) (sD c L G G' (retF f)) := ps_imp (ps_ret he) fun E σ H ⟨S0, H0, S, r, ok, p⟩ => st_seq hg ok p fun d v S1 H1 w1 o1 m1 p1 => by
  unfold PostS at p1
  rw [hr] at p1
  exact p1 v S1 H1 o1.fwd m1
theorem ds_retO (hg : Gok c G) (hr : c.rm = true) (he : PE X e (tO c G f)) : PS X (.Return (some e) pos) (sD c L G G' (retF f)) := ps_imp (ps_ret he) fun E σ H ⟨S0, H0, S, r, ok, p⟩ => st_seq hg ok p fun d v S1 H1 w1 o1 m1 p1 => by
  unfold PostS at p1
  rw [hr] at p1
  obtain ⟨q, ho, rfl, n, ns, hp, h⟩ := m1
  exact p1 q ho S1 H1 o1.fwd (ok.fwd.h.nn n) ns hp h
/-- return x, x an own object -/
theorem ds_retI (i : Nat) {x : Str} {pos' : Pos} (hr : c.rm = true) (k : kd G i = .o) (he : PE X (.Name x pos') (tVar i)) : PS X (.Return (some (.Name x pos')) pos) (sD c L G G' (retF (dVar i))) := ps_imp (ps_ret he) fun E σ H ⟨S0, H0, S, r, ok, p⟩ => by
  unfold retF dVar at p
  split at p
  · rename_i d hd
    obtain ⟨q, ho, s1, s2, s3, s4, s5⟩ := ok.own k hd
    unfold liftS PostS at p
    dsimp only at p
    rw [hr] at p
    exact ⟨.ref q, s1, p q ho S H ok.fwd s4 s3 s2 s5⟩
  · exact p.elim
def dropF {α : Type} (f : Rho → Res α) : Rho → SR := fun r => liftS r (f r) fun _ => .nx r
theorem ds_expr {R : Md V D} (hg : Gok c G) (he : PE X e (rd c G f R)) (hs : swapsWith e none pos.line X.env = pure false := by rfl) : PS X (.Expr e pos) (sD c L G G (dropF f)) := ps_imp (ps_expr he hs) fun E σ H ⟨S0, H0, S, r, ok, p⟩ =>
  st_seq hg ok p fun d v S1 H1 w1 o1 m1 p1 => p1 σ S1 H1 o1
theorem ds_break : PS X (.Break pos) (sD c G G G' .bk) := ps_imp ps_break fun E σ H ⟨S0, H0, S, r, ok, p⟩ => p σ S H ok
theorem ds_cont : PS X (.Continue pos) (sD c G G G' .ct) := ps_imp ps_continue fun E σ H ⟨S0, H0, S, r, ok, p⟩ => p σ S H ok
def ifF (t : Rho → Res Bool) (F K : Rho → SR) : Rho → SR := fun r => liftS r (t r) fun b => if b = true then F r else K r
theorem ds_if {cnd : Expr} {sa sb : List Stmt} {t : Rho → Res Bool} {F K : Rho → SR} (hg : Gok c G) (hc : PT X cnd (tT c G t)) (ha : PSs X sa (sD c L G G' F)) (hb : PSs X sb (sD c L G G' K)) : PS X (.If cnd sa sb pos) (sD c L G G' (ifF t F K)) :=
  ps_imp (ps_if hc ha hb) fun E σ H ⟨S0, H0, S, r, ok, p⟩ => st_seq hg ok p fun x v S1 H1 w1 o1 m1 p1 => by
    rw [show v = x from m1]
    cases x with
    | true => exact ⟨S0, H0, S1, r, o1, p1⟩
    | false => exact ⟨S0, H0, S1, r, o1, p1⟩
variable {a b : Expr} {f1 f2 : Rho → Res D} {apos cpos p' : Pos}
/-- the own list in slot i -/
def ownL (i : Nat) (r : Rho) : Res (List D) := match r[i]? with
  | some (some (.lst ds)) => .ok ds
  | _ => .bad
theorem of_ownL {i : Nat} {k : List D → SR} (e : EnvOk c S0 H0 G S H σ r) (kd' : kd G i = .o) (p : PostS c S0 H0 L G' (liftS r (ownL i r) k) E) :
    ∃ q xs ds, r[i]? = some (some (.lst ds)) ∧ σ[i]? = some (some (.ref q)) ∧ H q = some (.lst xs) ∧ RpA c.K c.cm S xs ds ∧ PostS c S0 H0 L G' (k ds) E := by
  unfold ownL at p
  split at p
  · rename_i ds hd
    obtain ⟨q, ho, s1, s2, s3, s4, s5⟩ := e.own kd' hd
    cases s5 with
    | lst r1 => exact ⟨q, _, ds, hd, s1, s2, r1, p⟩
  · exact p.elim
noncomputable def guardS (p : Prop) (x : SR) : SR := @ite _ p (Classical.propDecidable p) x .bad
theorem guardS_pos {p : Prop} {x : SR} (h : p) : guardS p x = x := by unfold guardS; exact if_pos h
noncomputable def appF (i : Nat) (f : Rho → Res D) : Rho → SR := fun r => liftS r (ownL i r) fun ds => liftS r (f r) fun d => guardS (ds.length < sizeLine) (.nx (r.set i (some (.lst (ds ++ [d])))))
theorem PostS.ite {p : Prop} [Decidable p] {x : SR} (h : PostS c S0 H0 L G' (if p then x else .bad) E) : p ∧ PostS c S0 H0 L G' x E := by
  by_cases hp : p
  · rw [if_pos hp] at h; exact ⟨hp, h⟩
  · rw [if_neg hp] at h; exact h.elim
theorem PostS.gd {p : Prop} {x : SR} (h : PostS c S0 H0 L G' (guardS p x) E) : p ∧ PostS c S0 H0 L G' x E := by
  by_cases hp : p
  · rw [guardS_pos hp] at h; exact ⟨hp, h⟩
  · unfold guardS at h; rw [if_neg hp] at h; exact h.elim
theorem pe_app {o : Expr} {to te : TE} (ho : PE X o to) (he : PE X e te) (hbase : attributeBase o "append" X.env (eval o X.env) = eval o X.env := by rfl)
    (hfew : ((backTo cpos (starEach [e] X.env)).all (fun x => !x.1) && (backToKw cpos (keywordEach [] X.env)).all (fun x => x.1.isSome) && decide ([e].length + ([] : List Keyword).length + (if ([] : List Keyword).isEmpty then 0 else 1) < 30)) = true := by rfl)
    (hline : (apos.endLine == cpos.line) = true := by rfl) (hs : starEach [e] X.env = (false, eval e X.env) :: starEach [] X.env := by rfl) :
    PE X (.Call (.Attribute o "append" apos) [e] [] cpos) (tBM X.K "list" rAppend to (tCons te tNil)) :=
  pe_bm PySem.F.plainAttrs_list PySem.F.slot_list_append PySem.F.type_list_append mt_append ho (pa_cons he pa_nil hs) hbase hfew hline hs rfl
theorem ds_app (i : Nat) {x : Str} {pn : Pos} (hg : Gok c G) (k : kd G i = .o) (ho : PE X (.Name x pn) (tVar i)) (he : PE X e (tV c G f)) (hw : swapsWith (.Call (.Attribute (.Name x pn) "append" apos) [e] [] cpos) none pos.line X.env = pure false := by rfl)
    (hbase : attributeBase (.Name x pn) "append" X.env (eval (.Name x pn) X.env) = eval (.Name x pn) X.env := by rfl)
    (hfew : ((backTo cpos (starEach [e] X.env)).all (fun x => !x.1) && (backToKw cpos (keywordEach [] X.env)).all (fun x => x.1.isSome) && decide ([e].length + ([] : List Keyword).length + (if ([] : List Keyword).isEmpty then 0 else 1) < 30)) = true := by rfl)
    (hline : (apos.endLine == cpos.line) = true := by rfl) (hs : starEach [e] X.env = (false, eval e X.env) :: starEach [] X.env := by rfl) :
    PS X (.Expr (.Call (.Attribute (.Name x pn) "append" apos) [e] [] cpos) pos) (sD c L G G (appF i f)) :=
  ps_imp (ps_expr (pe_app ho he hbase hfew hline hs) hw) fun E σ H ⟨S0, H0, S, r, ok, p⟩ => by
    obtain ⟨q, xs, ds, hd, z1, z2, z3, p1⟩ := of_ownL ok k p
    refine ⟨.ref q, z1, .inl ⟨rfl, xs, .inl (.inl z2)⟩, st_seq hg ok p1 fun d v S1 H1 w1 o1 m1 p2 => ?_⟩
    obtain ⟨hl, p2⟩ := p2.gd
    exact ⟨q, xs, v, rfl, rfl, w1.h _ _ z2, by rw [z3.length]; exact hl, p2 σ S1 _ (o1.mut k hd z1 (.lst ((z3.mono w1.s).app (.one m1))))⟩
/-- what is wanted behind a target -/
def PostR (c : Cf) (S0 H0 S H : Hp) (G' : List Ow) (σ : St) (ks : List Nat) (x : Res Rho) (Q : St → Hp → Prop) : Prop := match x with
  | .ok r' => ∀ σ', wipe σ' ks = wipe σ ks → EnvOk c S0 H0 G' S H σ' r' → Q σ' H
  | _ => False
theorem wipe_get (σ : St) : ∀ (vs : List Nat) (i : Nat), (wipe σ vs)[i]? = if i ∈ vs then σ[i]?.map (fun _ => none) else σ[i]?
  | [], i => by simp [wipe]
  | v :: vs, i => by
    show ((wipe σ vs).set v none)[i]? = _
    by_cases h : v = i
    · subst h
      rw [List.getElem?_set, if_pos rfl, wipe_length, if_pos (List.mem_cons_self)]
      split
      · rename_i hl; simp [List.getElem?_eq_getElem hl]
      · rename_i hl; rw [List.getElem?_eq_none (by omega)]; rfl
    · rw [List.getElem?_set_ne h, wipe_get σ vs i]
      have : (i ∈ v :: vs) ↔ i ∈ vs := by simp [List.mem_cons, Ne.symm h]
      simp only [this]
theorem wipe_set {σ : St} {i : Nat} {x : Option V} : wipe (σ.set i x) [i] = wipe σ [i] := by
  show (σ.set i x).set i none = σ.set i none
  exact List.set_set _
theorem wipe_len {σ σ' : St} {ks : List Nat} (h : wipe σ' ks = wipe σ ks) : σ'.length = σ.length := by
  have := congrArg List.length h
  rw [wipe_length, wipe_length] at this
  exact this
theorem wipe_get_eq {σ σ' : St} {ks : List Nat} (h : wipe σ' ks = wipe σ ks) {i : Nat} (hi : i ∉ ks) : σ'[i]? = σ[i]? := by
  have := congrArg (fun l : St => l[i]?) h
  simp only [wipe_get, if_neg hi] at this
  exact this
theorem wipe_app {σ σ1 σ2 : St} {k1 k2 : List Nat} (h1 : wipe σ1 k1 = wipe σ k1) (h2 : wipe σ2 k2 = wipe σ1 k2) : wipe σ2 (k1 ++ k2) = wipe σ (k1 ++ k2) := by
  have l1 := wipe_len h1
  have l2 := wipe_len h2
  apply List.ext_getElem?
  intro i
  rw [wipe_get, wipe_get]
  by_cases hi : i ∈ k1 ++ k2
  · rw [if_pos hi, if_pos hi]
    by_cases hl : i < σ.length
    · rw [List.getElem?_eq_getElem hl, List.getElem?_eq_getElem (show i < σ2.length by omega)]; rfl
    · rw [List.getElem?_eq_none (by omega), List.getElem?_eq_none (by omega)]
  · rw [if_neg hi, if_neg hi]
    have a1 : i ∉ k1 := fun z => hi (List.mem_append_left _ z)
    have a2 : i ∉ k2 := fun z => hi (List.mem_append_right _ z)
    rw [wipe_get_eq h2 a2, wipe_get_eq h1 a1]
/-- a target by data -/
def gD (c : Cf) (G G' : List Ow) (ks : List Nat) (t : D → Rho → Res Rho) : TG := fun v σ H Q => ∃ S0 H0 S r d, EnvOk c S0 H0 G S H σ r ∧ Rp c.K c.cm S v d ∧ PostR c S0 H0 S H G' σ ks (t d r) Q
theorem pg_imp {tg : Expr} {t t' : TG} (h : PG X tg t) (k : ∀ v σ H Q, t' v σ H Q → t v σ H Q) : PG X tg t' := ⟨fun pins s σ H v u Q I r q => h.run pins s σ H v u Q I r (k v σ H Q q)⟩
theorem pgs_imp {tg : List Expr} {t t' : TGs} (h : PGs X tg t) (k : ∀ v σ H Q, t' v σ H Q → t v σ H Q) : PGs X tg t' := ⟨fun pins s σ H v u Q I r q => h.run pins s σ H v u Q I r (k v σ H Q q)⟩
def tgN (i : Nat) : D → Rho → Res Rho := fun d r => .ok (r.set i (some d))
theorem dg_name (i : Nat) {x : Str} (hN : X.N.Nodup) (hi : X.N[i]? = some x) (hx : Loc X.env.scope x) (hf : X.fn x = true ∨ X.env.scope.names.lookup x = some .local := by first | exact .inl rfl | exact .inr rfl | assumption) :
    PG X (.Name x pos) (gD c G (G.set i .v) [i] (tgN i)) := pg_imp (pg_name hN hi hx hf) fun v σ H Q ⟨S0, H0, S, r, d, ok, hv, p⟩ => p _ wipe_set (ok.setV i hv)
def gDs (c : Cf) (G G' : List Ow) (ks : List Nat) (t : List D → Rho → Res Rho) : TGs := fun vs σ H Q => ∃ S0 H0 S r ds, EnvOk c S0 H0 G S H σ r ∧ RpA c.K c.cm S vs ds ∧ PostR c S0 H0 S H G' σ ks (t ds r) Q
def tgNil : List D → Rho → Res Rho
  | [], r => .ok r
  | _ :: _, _ => .bad
def tgCons (t : D → Rho → Res Rho) (u : List D → Rho → Res Rho) : List D → Rho → Res Rho
  | [], _ => .bad
  | d :: ds, r => (t d r).bind (u ds)
theorem dg_nil : PGs X [] (gDs c G G [] tgNil) := pgs_imp pgs_nil fun vs σ H Q ⟨S0, H0, S, r, ds, ok, hv, p⟩ => by
  cases hv with
  | nil => exact ⟨rfl, p σ rfl ok⟩
  | cons _ _ => exact p.elim
theorem dg_cons {es : List Expr} {t : D → Rho → Res Rho} {u : List D → Rho → Res Rho} {k1 k2 : List Nat} (h1 : PG X e (gD c G G' k1 t)) (h2 : PGs X es (gDs c G' G'' k2 u)) (hs : (assignEach (e :: es) X.env).map (·.2) = assign e X.env :: (assignEach es X.env).map (·.2) := by rfl) :
    PGs X (e :: es) (gDs c G G'' (k1 ++ k2) (tgCons t u)) := pgs_imp (pgs_cons h1 h2 hs) fun vs σ H Q ⟨S0, H0, S, r, ds, ok, hv, p⟩ => by
  cases hv with
  | nil => exact p.elim
  | @cons v vs d ds hv hr =>
    refine ⟨v, vs, rfl, S0, H0, S, r, d, ok, hv, ?_⟩
    have p : PostR c S0 H0 S H G'' σ (k1 ++ k2) ((t d r).bind (u ds)) Q := p
    cases ht : t d r with
    | ok r1 =>
      rw [ht] at p
      intro σ1 z1 ok1
      refine ⟨S0, H0, S, r1, ds, ok1, hr, ?_⟩
      have p : PostR c S0 H0 S H G'' σ (k1 ++ k2) (u ds r1) Q := p
      cases hu : u ds r1 with
      | ok r2 => rw [hu] at p; exact fun σ2 z2 ok2 => p σ2 (wipe_app z1 z2) ok2
      | err _ _ _ => rw [hu] at p; exact p.elim
      | bad => rw [hu] at p; exact p.elim
    | err _ _ _ => rw [ht] at p; exact p.elim
    | bad => rw [ht] at p; exact p.elim
def tgT (n : Nat) (u : List D → Rho → Res Rho) : D → Rho → Res Rho := fun d r => match d with
  | .tup ds => if ds.length = n then u ds r else .bad
  | .kt ds => if ds.length = n then u ds r else .bad
  | _ => .bad
theorem dg_tup {es : List Expr} {k n : Nat} {ks : List Nat} {u : List D → Rho → Res Rho} (hc : X.calm = true) (h : PGs X es (gDs c G G' ks u)) (hn : (assignEach es X.env).length = n := by rfl) (hst : (assignEach es X.env).findIdx? (·.1) = none := by rfl) (hK : c.K = X.K := by rfl) :
    PG X (.Tuple es k pos) (gD c G G' ks (tgT n u)) := pg_imp (pg_tup hc h hn hst) fun v σ H Q ⟨S0, H0, S, r, d, ok, hv, p⟩ => by
  unfold tgT at p
  cases hv with
  | @kt a xs ds q rr =>
    dsimp only at p
    by_cases hl : ds.length = n
    · rw [if_pos hl] at p
      exact ⟨a, xs, rfl, by rw [← hK]; exact ok.ex.t q, by rw [rr.length]; exact hl, S0, H0, S, r, ds, ok, rr, p⟩
    · rw [if_neg hl] at p; exact p.elim
  | @tup a xs ds q rr =>
    dsimp only at p
    by_cases hl : ds.length = n
    · rw [if_pos hl] at p
      exact ⟨a, xs, rfl, by rw [← hK]; exact .inl (.inl (ok.ex _ _ q)), by rw [rr.length]; exact hl, S0, H0, S, r, ds, ok, rr, p⟩
    · rw [if_neg hl] at p; exact p.elim
  | _ => exact p.elim
def asgF (t : D → Rho → Res Rho) (f : Rho → Res D) : Rho → SR := fun r => liftS r (f r) fun d => match t d r with
  | .ok r' => .nx r'
  | _ => .bad
/-- target = e -/
theorem ds_asg {tg : Expr} {ks : List Nat} {t : D → Rho → Res Rho} (hg : Gok c G) (he : PE X e (tV c G f)) (ht : PG X tg (gD c G G' ks t)) (hs : swapsWithSole [tg] e pos.line X.env = pure false := by rfl) (hw : swappedStores [tg] e X.env = pure none := by rfl)
    (h1 : (assignEach [tg] X.env).map (·.2) = [assign tg X.env] := by rfl) : PS X (.Assign [tg] e pos) (sD c L G G' (asgF t f)) := ps_imp (ps_asg he ht hs hw h1) fun E σ H ⟨S0, H0, S, r, ok, p⟩ => st_seq hg ok p fun d v S1 H1 w1 o1 m1 p1 => by
  refine ⟨S0, H0, S1, r, d, o1, m1, ?_⟩
  cases ht : t d r with
  | ok r' => rw [ht] at p1; exact fun σ' _ ok' => p1 σ' S1 H1 ok'
  | err _ _ _ => rw [ht] at p1; exact p1.elim
  | bad => rw [ht] at p1; exact p1.elim
/-- x, y = a, b -/
def parF (i j : Nat) (f1 f2 : Rho → Res D) : Rho → SR := fun r => liftS r (dCons f1 (dCons f2 dNil) r) fun ds => match ds with
  | [d, e] => .nx ((r.set i (some d)).set j (some e))
  | _ => .bad
theorem ds_par (i j : Nat) {x y : Str} {px py pt pt2 : Pos} {kt k2 : Nat} (hg : Gok c G) (hc : X.calm = true) (hN : X.N.Nodup) (hi : X.N[i]? = some x) (hj : X.N[j]? = some y) (hij : i ≠ j)
    (hx : X.env.scope.names.lookup x = some .local) (hy : X.env.scope.names.lookup y = some .local) (ha : PE X a (tV c G f1)) (hb : PE X b (tV c G f2))
    (hw : swappedStores [.Tuple [.Name x px, .Name y py] kt pt] (.Tuple [a, b] k2 pt2) X.env = pure (some [x, y]))
    (hs : swapsWithSole [.Tuple [.Name x px, .Name y py] kt pt] (.Tuple [a, b] k2 pt2) pos.line X.env = pure false := by rfl)
    (hs1 : starEach [a, b] X.env = (false, eval a X.env) :: starEach [b] X.env := by rfl) (hs2 : starEach [b] X.env = (false, eval b X.env) :: starEach [] X.env := by rfl) :
    PS X (.Assign [.Tuple [.Name x px, .Name y py] kt pt] (.Tuple [a, b] k2 pt2) pos) (sD c L G ((G.set i .v).set j .v) (parF i j f1 f2)) :=
  ps_imp (ps_par hc hN hi hj hij hx hy (da_cons ha (da_cons hb da_nil hs2) hs1) hw hs) fun E σ H ⟨S0, H0, S, r, ok, p⟩ => st_seq hg ok p fun ds vs S1 H1 w1 o1 m1 p1 => by
    match ds, m1, p1 with
    | [d, e], .cons hd (.cons he .nil), p1 => exact ⟨_, _, rfl, p1 _ S1 H1 ((o1.setV i hd).setV j he)⟩
    | [], _, p1 => exact p1.elim
    | [_], _, p1 => exact p1.elim
    | _ :: _ :: _ :: _, _, p1 => exact p1.elim
def YOk (c : Cf) (S' : Hp) (ds : List D) (Y : Nat → Hp → V → Hp → Prop) : Prop := ∀ i S1 H1 x H2, i < ds.length → Ex S' S1 → Ex S1 H1 → Y i H1 x H2 → ∃ S2 d, Fwd S1 H1 S2 H2 ∧ ds[i]? = some d ∧ Rp c.K c.cm S2 x d
/-- the iterator J gives the data ds -/
def Gives (c : Cf) (H0 S' : Hp) (J : It) (ds : List D) : Prop := ∃ Gd Y, Walk J ds.length Gd Y ∧ (∀ S'' H'', Ex S' S'' → Ex S'' H'' → Ex H0 H'' → Gd H'') ∧ YOk c S' ds Y
def iD (c : Cf) (G : List Ow) (f : Rho → Res (List D)) : TI := fun σ H R => ∃ S0 H0 S r, EnvOk c S0 H0 G S H σ r ∧ PostG c σ S H (f r) fun ds S' H' => ∀ J, Gives c H0 S' J ds → R J H'
theorem pi_imp {tg it : Expr} {t t' : TI} (h : PI X tg it t) (k : ∀ σ H R, t' σ H R → t σ H R) : PI X tg it t' := ⟨fun pins s σ H R I q => h.run pins s σ H R I (k σ H R q)⟩
def dIt (g : D → Res (List D)) (f : Rho → Res D) : Rho → Res (List D) := fun r => (f r).bind g
theorem gives_list {c : Cf} {H0 S : Hp} {q : Addr} {xs : List V} {ds : List D} (h : SqL c.K S q xs) (rr : RpA c.K c.cm S xs ds) : Gives c H0 S (Itl c.K q) ds := by
  refine ⟨_, _, by rw [← rr.length]; exact walk_list (K := c.K) (a := q) (xs := xs), fun S'' H'' e1 e2 _ => e2.l (e1.l h), fun i S1 H1 x H2 hi e1 e2 y => ?_⟩
  obtain ⟨rfl, hx⟩ := y
  obtain ⟨d, h1, h2⟩ := rr.getV hx
  exact ⟨S1, d, Fwd.refl e2, h1, h2.mono e1⟩
theorem gives_tup {c : Cf} {H0 S : Hp} {q : Addr} {xs : List V} {ds : List D} (h : SqT c.K S q xs) (rr : RpA c.K c.cm S xs ds) : Gives c H0 S (Itt c.K q) ds := by
  refine ⟨_, _, by rw [← rr.length]; exact walk_tup (K := c.K) (a := q) (xs := xs), fun S'' H'' e1 e2 _ => e2.t (e1.t h), fun i S1 H1 x H2 hi e1 e2 y => ?_⟩
  obtain ⟨rfl, hx⟩ := y
  obtain ⟨d, h1, h2⟩ := rr.getV hx
  exact ⟨S1, d, Fwd.refl e2, h1, h2.mono e1⟩
variable {tg : Expr}
theorem di_list (he : PE X e (tV c G f)) (hK : c.K = X.K := by rfl) : PI X tg e (iD c G (dIt itemsL f)) := pi_imp (pi_list he) fun σ H R ⟨S0, H0, S, r, ok, p⟩ => rd_seq ok p fun d v S1 H1 w1 o1 m1 p1 => by
  rw [← hK]
  cases d with
  | lst ds =>
    cases m1 with | @lst q xs _ h rr =>
    exact ⟨q, rfl, ⟨xs, .inl (.inl (o1.ex _ _ h))⟩, p1.go o1.ex _ (gives_list (.inl (.inl h)) rr)⟩
  | fz ds =>
    cases m1 with | @fz q xs _ h rr =>
    exact ⟨q, rfl, ⟨xs, o1.ex.l h⟩, p1.go o1.ex _ (gives_list h rr)⟩
  | _ => exact p1.elim
theorem di_tup (he : PE X e (tV c G f)) (hK : c.K = X.K := by rfl) : PI X tg e (iD c G (dIt itemsT f)) := pi_imp (pi_tup he) fun σ H R ⟨S0, H0, S, r, ok, p⟩ => rd_seq ok p fun d v S1 H1 w1 o1 m1 p1 => by
  rw [← hK]
  cases d with
  | tup ds =>
    cases m1 with | @tup q xs _ h rr =>
    exact ⟨q, rfl, ⟨xs, .inl (.inl (o1.ex _ _ h))⟩, p1.go o1.ex _ (gives_tup (.inl (.inl h)) rr)⟩
  | _ => exact p1.elim
/-- range(n), range(a, b) -/
def rngL (lo : Int) (n : Nat) : List D := (List.range n).map fun (i : Nat) => D.int (lo + (i : Int))
theorem gives_rng {c : Cf} {H0 S : Hp} {lo : Int} {n : Nat} : Gives c H0 S (Itr lo n) (rngL lo n) := by
  have hl : (rngL lo n).length = n := by unfold rngL; simp
  refine ⟨_, _, by rw [hl]; exact walk_range, fun _ _ _ _ _ => trivial, fun i S1 H1 x H2 hi e1 e2 y => ?_⟩
  obtain ⟨rfl, rfl⟩ := y
  rw [hl] at hi
  exact ⟨S1, .int (lo + (i : Int)), Fwd.refl e2, by unfold rngL; simp [hi], .int _⟩
noncomputable def rng1 : List D → Res (List D)
  | [.int n] => guard (-4611686018427387904 ≤ n ∧ n < 4611686018427387904) (.ok (rngL 0 n.toNat))
  | _ => .bad
noncomputable def rng2 : List D → Res (List D)
  | [.int a, .int b] => guard (-4611686018427387904 ≤ a ∧ a < 4611686018427387904 ∧ -4611686018427387904 ≤ b ∧ b < 4611686018427387904) (.ok (rngL a (b - a).toNat))
  | _ => .bad
def dIts (g : List D → Res (List D)) (fs : Rho → Res (List D)) : Rho → Res (List D) := fun r => (fs r).bind g
theorem di_rng1 {p : Pos} {fs : Rho → Res (List D)} (hm : X.mg "range" = none) (hg : Gl X "range") (ha : PA X [a] (tAs c G fs)) (hs : starEach [a] X.env = [(false, eval a X.env)] := by rfl) : PI X tg (.Call (.Name "range" p) [a] [] pos) (iD c G (dIts rng1 fs)) :=
  pi_imp (pi_range1 hg hm ha hs) fun σ H R ⟨S0, H0, S, r, ok, p⟩ => rd_seq ok p fun ds vs S1 H1 w1 o1 m1 p1 => by
    unfold rng1 at p1
    split at p1
    · obtain ⟨hl, p1⟩ := p1.gd
      match vs, m1 with
      | _, .cons h .nil => cases h; exact ⟨_, rfl, by have := hl.1; omega, by have := hl.2; omega, p1.go o1.ex _ gives_rng⟩
    · exact p1.elim
theorem di_rng2 {p : Pos} {fs : Rho → Res (List D)} (hm : X.mg "range" = none) (hg : Gl X "range") (ha : PA X [a, b] (tAs c G fs)) (hs : starEach [a, b] X.env = [(false, eval a X.env), (false, eval b X.env)] := by rfl) (hs2 : starEach [b] X.env = [(false, eval b X.env)] := by rfl) :
    PI X tg (.Call (.Name "range" p) [a, b] [] pos) (iD c G (dIts rng2 fs)) :=
  pi_imp (pi_range2 hg hm ha hs hs2) fun σ H R ⟨S0, H0, S, r, ok, p⟩ => rd_seq ok p fun ds vs S1 H1 w1 o1 m1 p1 => by
    unfold rng2 at p1
    split at p1
    · obtain ⟨hl, p1⟩ := p1.gd
      match vs, m1 with
      | _, .cons h (.cons h' .nil) => cases h; cases h'; exact ⟨_, _, rfl, by obtain ⟨h1, h2, h3, h4⟩ := hl; omega, p1.go o1.ex _ gives_rng⟩
    · exact p1.elim
/-- the signs of a text -/
def signs (z : Str) : List D := z.cps.toList.map fun n => .str ⟨#[n]⟩
def itemsS : D → Res (List D)
  | .str z => .ok (signs z)
  | _ => .bad
def loopF (t : D → Rho → Res Rho) (F : Rho → SR) : List D → Rho → SR
  | [], r => .nx r
  | d :: ds, r => match t d r with
    | .ok r1 => match F r1 with
      | .nx r2 => loopF t F ds r2
      | .ct r2 => loopF t F ds r2
      | .bk r2 => .nx r2
      | o => o
    | _ => .bad
def forF (its : Rho → Res (List D)) (t : D → Rho → Res Rho) (F : Rho → SR) : Rho → SR := fun r => liftS r (its r) fun ds => loopF t F ds r
theorem ds_for {iter : Expr} {body : List Stmt} {its : Rho → Res (List D)} {ks : List Nat} {t : D → Rho → Res Rho} {F : Rho → SR} (hg : Gok c G) (hp : PassesOwn (model X.prog X.w) X.A X.env X.xe) (hc : X.calm = true) (hi : PI X tg iter (iD c G its)) (ht : PG X tg (gD c G G' ks t)) (hb : PSs X body (sD c G G' G F))
    (hs : ∀ x, foldedSetIterable iter X.env x = pure x := by intro _; rfl) : PS X (.For tg iter body [] pos) (sD c L G G (forF its t F)) :=
  ps_imp (ps_for hp hc hi ht hb hs) fun E σ H ⟨S0, H0, S, r, ok, p⟩ => by
    refine ⟨S0, H0, S, r, ok, ?_⟩
    unfold forF at p
    cases hf : its r with
    | err n ns vs =>
      rw [hf] at p
      exact fun C dd S' H' fs h1 fw h2 h3 h4 => p C dd σ S' H' fs h1 (ok.fwd.trans fw) (fun g q => by rw [hg g q]; exact ok.go fw) h2 h3 h4
    | bad => rw [hf] at p; exact p.elim
    | ok ds =>
      rw [hf] at p
      intro S1 H1 w1 J ⟨Gd, Y, wk, hG, hY⟩
      have p : PostS c S0 H0 L G (loopF t F ds r) E := p
      refine for_it wk (fun i σ' H' => ∃ S' r', Ex S1 S' ∧ EnvOk c S0 H0 G S' H' σ' r' ∧ PostS c S0 H0 L G (loopF t F (ds.drop i) r') E) ⟨S1, r, Ex.refl, ok.go w1, by rw [List.drop_zero]; exact p⟩ ?_ ?_ ?_
      · rintro i σ' H' _ ⟨S', r', e1, ok', _⟩
        exact hG S' H' e1 ok'.ex ok'.fwd.h
      · rintro i x σ' H' H2 hi ⟨S', r', e1, ok', p'⟩ y
        obtain ⟨S2, d, fw, hd, hx⟩ := hY i S' H' x H2 hi e1 ok'.ex y
        have hdrop : ds.drop i = d :: ds.drop (i + 1) := by
          rw [List.drop_eq_getElem_cons hi]
          rw [List.getElem?_eq_getElem hi] at hd
          cases hd; rfl
        rw [hdrop] at p'
        unfold loopF at p'
        refine ⟨S0, H0, S2, r', d, ok'.go fw, hx, ?_⟩
        cases htt : t d r' with
        | err _ _ _ => rw [htt] at p'; exact p'.elim
        | bad => rw [htt] at p'; exact p'.elim
        | ok r1 =>
          rw [htt] at p'
          intro σ3 _ ok3
          refine ⟨S2, H0, S2, r1, ok3.rebase, ?_⟩
          dsimp only at p'
          have fin : ∀ σ4 S4 H4 r4, EnvOk c S2 H0 G S4 H4 σ4 r4 → PostS c S0 H0 L G (loopF t F (ds.drop (i + 1)) r4) E → ∃ S' r', Ex S1 S' ∧ EnvOk c S0 H0 G S' H4 σ4 r' ∧ PostS c S0 H0 L G (loopF t F (ds.drop (i + 1)) r') E := fun σ4 S4 H4 r4 e4 p4 =>
            ⟨S4, r4, (e1.trans fw.s).trans e4.fwd.s, e4.unbase ok3.fwd, p4⟩
          cases hF : F r1 with
          | nx r2 => rw [hF] at p'; exact fun σ4 S4 H4 e4 => fin σ4 S4 H4 r2 e4 p'
          | ct r2 => rw [hF] at p'; exact fun σ4 S4 H4 e4 => fin σ4 S4 H4 r2 e4 p'
          | bk r2 => rw [hF] at p'; exact fun σ4 S4 H4 e4 => p' σ4 S4 H4 (e4.unbase ok3.fwd)
          | rt d => rw [hF] at p'; exact PostS.rebase (c := c) (o := .rt d) (E := E) ok3.fwd p'
          | er r2 n ns vs => rw [hF] at p'; exact PostS.rebase (c := c) (o := .er r2 n ns vs) (E := E) ok3.fwd p'
          | bad => rw [hF] at p'; exact p'.elim
      · rintro σ' H' ⟨S', r', e1, ok', p'⟩
        rw [List.drop_length] at p'
        exact p' σ' S' H' ok'
end
end Dx
end S_DxE
section S_DxF
set_option Elab.async false
set_option linter.all false
set_option maxRecDepth 100000
set_option maxHeartbeats 2000000
namespace Dx
open PySem L2
def wipeR (r : Rho) : List Nat → Rho
  | [] => r
  | v :: vs => (wipeR r vs).set v none
theorem wipeR_len (r : Rho) : ∀ vs : List Nat, (wipeR r vs).length = r.length
  | [] => rfl
  | v :: vs => by show ((wipeR r vs).set v none).length = _; rw [List.length_set, wipeR_len r vs]
theorem wipeR_some {r : Rho} {i : Nat} {d : D} : ∀ {vs : List Nat}, (wipeR r vs)[i]? = some (some d) → r[i]? = some (some d) ∧ i ∉ vs
  | [], h => ⟨h, by simp⟩
  | v :: vs, h => by
    rcases set_some (l := wipeR r vs) h with ⟨_, e, _⟩ | ⟨ne, h⟩
    · cases e
    · obtain ⟨h1, h2⟩ := wipeR_some h
      exact ⟨h1, by simp [Ne.symm ne, h2]⟩
/-- within a comprehension nothing is raised -/
abbrev Cf.calm (c : Cf) : Cf := ⟨c.K, c.cm, fun _ _ _ _ => False, none, c.rm⟩
section
variable {X : Cx} {c : Cf} {L G G' : List Ow} {σ : St} {S0 H0 S H : Hp} {r : Rho}
theorem EnvOk.wiped (e : EnvOk c S0 H0 G S H σ r) (vs : List Nat) : EnvOk c.calm S0 H0 G S H (wipe σ vs) (wipeR r vs) := by
  refine ⟨e.fwd, by rw [wipe_length, wipeR_len, e.len], fun i d h => ?_, fun i j d d' p hi hj ki kj si sj => ?_, let ⟨A, hA⟩ := e.sto; ⟨A, hA.sub (fun a ha => (hA.out a ha).1) (fun _ _ => rfl) Ex.refl (fun i d p hi ki si => hA.own i d p (wipeR_some hi).1 ki (wipe_some si).1) fun i d ki hi => ⟨rfl, (wipeR_some hi).1, by rw [wipe_get, if_neg (wipeR_some hi).2]⟩⟩⟩
  · obtain ⟨h1, h2⟩ := wipeR_some h
    obtain ⟨v, h3, h4⟩ := e.slot i d h1
    exact ⟨v, by rw [wipe_get, if_neg h2]; exact h3, h4⟩
  · exact e.sep i j d d' p (wipeR_some hi).1 (wipeR_some hj).1 ki kj (wipe_some si).1 (wipe_some sj).1
theorem Fwd.put {S' H' : Hp} {p : Addr} {o : HO} (f : Fwd S H S' H') (n : H p = none) (ns : S' p = none) : Fwd S H S' (upd H' p o) := ⟨f.s, f.h.put n, f.sub.put ns, f.new⟩
def lcLoop (t : D → Rho → Res Rho) (tt : Rho → Res Bool) (fe : Rho → Res D) (rw : Rho) : List D → Res (List D)
  | [] => .ok []
  | d :: ds => match t d rw with
    | .ok r1 => match tt r1 with
      | .ok true => match fe r1 with
        | .ok x => match lcLoop t tt fe rw ds with
          | .ok xs => .ok (x :: xs)
          | _ => .bad
        | _ => .bad
      | .ok false => lcLoop t tt fe rw ds
      | _ => .bad
    | _ => .bad
noncomputable def dLc (its : Rho → Res (List D)) (t : D → Rho → Res Rho) (tt : Rho → Res Bool) (fe : Rho → Res D) (vs : List Nat) : Rho → Res D := fun r => (its r).bind fun ds => guard (ds.length ≤ sizeLine) (match lcLoop t tt fe (wipeR r vs) ds with
  | .ok xs => .ok (.lst xs)
  | _ => .bad)
def dYes : Rho → Res Bool := fun _ => .ok true
/-- what is walked, as long as nothing that is there changes -/
def iDl (c : Cf) (G : List Ow) (f : Rho → Res (List D)) : TI := fun σ H R => ∃ S0 H0 S r, EnvOk c S0 H0 G S H σ r ∧ PostG c σ S H (f r) fun ds S' H' => ∀ J, Gives c H' S' J ds → R J H'
theorem pi_l {tg it : Expr} {f : Rho → Res (List D)} (h : PI X tg it (iD c G f)) : PI X tg it (iDl c G f) := pi_imp h fun σ H R ⟨S0, H0, S, r, ok, p⟩ => ⟨S0, H0, S, r, ok, p.imp fun ds S' H' fw hk J gv => hk J (let ⟨Gd, Y, h1, h2, h3⟩ := gv; ⟨Gd, Y, h1, fun S'' H'' e1 e2 e3 => h2 S'' H'' e1 e2 ((ok.fwd.h.trans fw.h).trans e3), h3⟩)⟩
theorem lc_rd {its : Rho → Res (List D)} {t : D → Rho → Res Rho} {tt : Rho → Res Bool} {fe : Rho → Res D} {vs : List Nat} : ∀ σ H Q, tO c G (dLc its t tt fe vs) σ H Q →
    tLc (iDl c G its) (gD c.calm G G' vs t) (tT c.calm G' tt) (tV c.calm G' fe) vs σ H Q := fun σ H Q ⟨S0, H0, S, r, ok, p⟩ => by
  refine ⟨S0, H0, S, r, ok, p.unbind.imp fun ds S1 H1 w1 p1 J gv Dl hD => ?_⟩
  obtain ⟨hl, p1⟩ := p1.gd
  obtain ⟨Gd, Y, wk, hG, hY⟩ := gv
  have ok1 := ok.go w1
  split at p1
  · rename_i res hres
    have okw := ok1.wiped vs
    have nS : S1 Dl = none := ok1.ex.nn hD
    refine lc_it wk (fun i H' => ∃ S' acc accD rest, Fwd S1 H1 S' H' ∧ S' Dl = none ∧ H' Dl = some (.lst acc) ∧ RpA c.K c.cm S' acc accD ∧ lcLoop t tt fe (wipeR r vs) (ds.drop i) = .ok rest ∧ accD ++ rest = res ∧ accD.length ≤ i)
      ⟨S1, [], [], res, Fwd.heap ok1.ex hD, nS, upd_same, .nil, by rw [List.drop_zero]; exact hres, rfl, Nat.le_refl _⟩ ?_ ?_ ?_
    · rintro i H' _ ⟨S', acc, accD, rest, fw, _⟩
      exact hG S' H' fw.s fw.sub fw.h
    · rintro i x H' H2 hi ⟨S', acc, accD, rest, fw, n1, h1, r1, hr, ha, hn⟩ y
      obtain ⟨S2, d, fw2, hd, hx⟩ := hY i S' H' x H2 hi fw.s fw.sub y
      have hdrop : ds.drop i = d :: ds.drop (i + 1) := by
        rw [List.drop_eq_getElem_cons hi]
        rw [List.getElem?_eq_getElem hi] at hd
        cases hd; rfl
      rw [hdrop] at hr
      unfold lcLoop at hr
      refine ⟨S0, H0, S2, wipeR r vs, d, okw.go (fw.trans fw2), hx, ?_⟩
      cases ht : t d (wipeR r vs) with
      | err _ _ _ => rw [ht] at hr; cases hr
      | bad => rw [ht] at hr; cases hr
      | ok r2 =>
        rw [ht] at hr
        dsimp only at hr
        intro σ3 z3 ok3
        have hz : L2.wipe (L2.wipe σ vs) vs = L2.wipe σ vs := by
          apply List.ext_getElem?
          intro k
          rw [wipe_get, wipe_get]
          split
          · cases σ[k]? <;> rfl
          · rfl
        have keepN : ∀ S4 H4, Fwd S' H' S4 H4 → S4 Dl = none := fun S4 H4 f4 => by
          cases q : S4 Dl with
          | none => rfl
          | some u => obtain ⟨_, z⟩ := (f4.new Dl u q n1).not h1; cases z
        refine ⟨z3.trans hz, S0, H0, S2, r2, ok3, ?_⟩
        cases htt : tt r2 with
        | err _ _ _ => rw [htt] at hr; cases hr
        | bad => rw [htt] at hr; cases hr
        | ok b =>
          rw [htt] at hr
          intro S4 H4 w4 b' hb
          cases hb
          have f4 := fw2.trans w4
          cases b with
          | false =>
            dsimp only at hr
            rw [if_neg (by decide)]
            exact ⟨S4, acc, accD, rest, fw.trans f4, keepN S4 H4 f4, f4.h _ _ h1, r1.mono f4.s, hr, ha, Nat.le_succ_of_le hn⟩
          | true =>
            dsimp only at hr
            rw [if_pos rfl]
            refine ⟨S0, H0, S4, r2, ok3.go w4, ?_⟩
            cases hfe : fe r2 with
            | err _ _ _ => rw [hfe] at hr; cases hr
            | bad => rw [hfe] at hr; cases hr
            | ok x2 =>
              rw [hfe] at hr
              dsimp only at hr
              cases hlc : lcLoop t tt fe (wipeR r vs) (ds.drop (i + 1)) with
              | err _ _ _ => rw [hlc] at hr; cases hr
              | bad => rw [hlc] at hr; cases hr
              | ok xs2 =>
                rw [hlc] at hr
                cases hr
                intro S5 H5 w5 y5 hy5
                have f5 := f4.trans w5
                refine ⟨acc, f5.h _ _ h1, ?_, S5, acc ++ [y5], accD ++ [x2], xs2, (fw.trans f5).put hD (keepN S5 H5 f5), keepN S5 H5 f5, upd_same, (r1.mono f5.s).app (.one hy5), rfl, ?_, ?_⟩
                · rw [r1.length]; omega
                · rw [← ha, List.append_assoc]; rfl
                · simp; omega
    · rintro H' ⟨S', acc, accD, rest, fw, n1, h1, r1, hr, ha, hn⟩
      rw [List.drop_length] at hr
      cases hr
      rw [List.append_nil] at ha
      subst ha
      exact p1 S' H' fw _ ⟨Dl, .lst acc, rfl, w1.h.nn hD, n1, h1, .lst r1⟩
  · exact p1.elim
theorem de_lc {elt tg iter : Expr} {ifs : List Expr} {scope : Scope} {own : List (Str × Nat)} {pos : Pos} {its : Rho → Res (List D)} {t : D → Rho → Res Rho} {tt : Rho → Res Bool} {fe : Rho → Res D} (hc : X.calm = true) (hN : X.N.Nodup) (hi : PI X tg iter (iD c G its)) (ok : BlkOk X.N X.env.scope scope own)
    (hg : ∀ (s : Shared) (H : Hp) (C : Addr) (cl : List (Str × Addr)) (fp : List Addr), PG (X.blk s H scope (compEnvC scope cl C X.env) fp) tg (gD c.calm G G' (own.map (·.2)) t)) (ht : ∀ (s : Shared) (H : Hp) (C : Addr) (cl : List (Str × Addr)) (fp : List Addr), PTs (X.blk s H scope (compEnvC scope cl C X.env) fp) ifs (tT c.calm G' tt))
    (he : ∀ (s : Shared) (H : Hp) (C : Addr) (cl : List (Str × Addr)) (fp : List Addr), PE (X.blk s H scope (compEnvC scope cl C X.env) fp) elt (tV c.calm G' fe)) (hs : ∀ x, foldedSetIterable iter X.env x = pure x := by intro _; rfl) :
    PE X (.ListComp elt [⟨tg, iter, ifs, 0⟩] scope pos) (tO c G (dLc its t tt fe (own.map (·.2)))) := pe_imp (pe_lc hc hN (pi_l hi) ok hg ht he hs) lc_rd
theorem dt_nil : PTs X [] (tT c G dYes) := ⟨fun pins s σ H Q I ⟨S0, H0, S, r, ok, p⟩ => pts_nil.run pins s σ H Q I (p.go ok.ex _ rfl)⟩
end
/-- the mode of its result: own, or a value -/
def mR (c : Cf) (rm : Bool) : Md V D := if rm then mO c else mV c
instance {c : Cf} {rm : Bool} : Anti (mR c rm) := by
  cases rm with
  | true => exact (inferInstance : Anti (mO c))
  | false => exact (inferInstance : Anti (mV c))
/-- F by data; ms the arguments' modes; rm whether the result is a new object that nothing else holds -/
def spD (K : PySem.W.Frag) (cm : CM) (ms : List Bool) (rm : Bool) (F : List D → Res D) : Sp := fun vs H Q E => ∃ S ds, Ex S H ∧ RpM ⟨K, cm, fun _ _ _ _ => False, none, rm⟩ S H ms vs ds ∧
  PostG ⟨K, cm, fun cls d _ H => E cls d H, none, rm⟩ [] S H (F ds) fun a S' H' => ∀ b, mR ⟨K, cm, fun _ _ _ _ => False, none, rm⟩ rm H S' H' b a → Q b H'
section
variable {X : Cx} {c : Cf} {L G G' : List Ow} {k : Nat} {f : Addr} {fd : FuncData} {ps : List Str} {x : Str} {p pos : Pos} {e : Expr} {es : List Expr} {fs : Rho → Res (List D)} {ms : List Bool} {rm : Bool} {F : List D → Res D}
theorem RpM.cf {c c' : Cf} {S H : Hp} (hK : c.K = c'.K) (hm : c.cm = c'.cm) : ∀ {ms : List Bool} {vs : List V} {ds : List D}, RpM c S H ms vs ds → RpM c' S H ms vs ds
  | [], [], [], _ => trivial
  | true :: ms, v :: vs, d :: ds, h => ⟨by rw [← hK, ← hm]; exact h.1, RpM.cf hK hm h.2⟩
  | false :: ms, v :: vs, d :: ds, h => ⟨by rw [← hK, ← hm]; exact h.1, RpM.cf hK hm h.2⟩
  | [], _ :: _, _, h => h.elim
  | [], [], _ :: _, h => h.elim
  | true :: _, [], _, h => h.elim
  | true :: _, _ :: _, [], h => h.elim
  | false :: _, [], _, h => h.elim
  | false :: _, _ :: _, [], h => h.elim
theorem call_rd {E : XK} {σ : St} {S H : Hp} {vs : List V} {ds : List D} {Q : VK} (hE : ∀ cls d H, c.W cls d σ H → E cls d H) (ex : Ex S H) (m : RpM c S H ms vs ds)
    (q : PostG c σ S H (F ds) fun a S' H' => ∀ b, mR c rm H S' H' b a → Q b H') : spD c.K c.cm ms rm F vs H Q E := by
  refine ⟨S, ds, ex, RpM.cf (c := c) (c' := ⟨c.K, c.cm, fun _ _ _ _ => False, none, rm⟩) rfl rfl m, ?_⟩
  cases hF : F ds with
  | ok a =>
    rw [hF] at q
    intro S' H' w b hb
    refine q S' H' w b ?_
    cases rm with
    | true => exact hb
    | false => exact hb
  | err n ns vs => rw [hF] at q; exact fun C dd S' H' fs h1 w h2 h3 h4 => hE _ _ _ (q C dd S' H' fs h1 w h2 h3 h4)
  | bad => rw [hF] at q; exact q.elim
/-- f(e, ..), f a def of the text -/
theorem de_call (F1 : FnOk X.prog X.w X.K X.mg X.base (L2.CX X.prog X.w) k f fd ps (spD c.K c.cm ms rm F)) (tk : Takes X c.W) (hr : Room k X.A) (hg : Gl X x) (hm : X.mg x = some (.ref f)) (hk : PySem.W.keepIn X.K (.ref f) = true) (hb : Binds X.K fd ps [])
    (ha : PA X (e :: es) (tM c G ms fs)) (hdb : (x == ("__debug__" : Str)) = false := by decide) (he : starEach (e :: es) X.env = (false, eval e X.env) :: starEach es X.env := by rfl) (hpl : (backTo pos (starEach es X.env)).any (·.1) = false := by rfl) :
    PE X (.Call (.Name x p) (e :: es) [] pos) (rd c G (dCall F fs) (mR c rm)) :=
  pe_imp (pe_callSD (E := fun σ cls d H => c.W cls d σ H) F1 hr hg hm hk hb .nil (fun σ => passAt tk σ) ha hdb he hpl) fun σ H Q ⟨S0, H0, S, r, ok, q⟩ => rd_seq ok q fun ds vs S1 H1 w1 o1 m1 p1 => by
    rw [List.append_nil]
    exact call_rd (fun _ _ _ h => h) o1.ex m1 (p1.anti w1.h)
theorem de_callV (F1 : FnOk X.prog X.w X.K X.mg X.base (L2.CX X.prog X.w) k f fd ps (spD c.K c.cm ms false F)) (tk : Takes X c.W) (hr : Room k X.A) (hg : Gl X x) (hm : X.mg x = some (.ref f)) (hk : PySem.W.keepIn X.K (.ref f) = true) (hb : Binds X.K fd ps [])
    (ha : PA X (e :: es) (tM c G ms fs)) (hdb : (x == ("__debug__" : Str)) = false := by decide) (he : starEach (e :: es) X.env = (false, eval e X.env) :: starEach es X.env := by rfl) (hpl : (backTo pos (starEach es X.env)).any (·.1) = false := by rfl) :
    PE X (.Call (.Name x p) (e :: es) [] pos) (tV c G (dCall F fs)) := de_call F1 tk hr hg hm hk hb ha hdb he hpl
theorem de_callO (F1 : FnOk X.prog X.w X.K X.mg X.base (L2.CX X.prog X.w) k f fd ps (spD c.K c.cm ms true F)) (tk : Takes X c.W) (hr : Room k X.A) (hg : Gl X x) (hm : X.mg x = some (.ref f)) (hk : PySem.W.keepIn X.K (.ref f) = true) (hb : Binds X.K fd ps [])
    (ha : PA X (e :: es) (tM c G ms fs)) (hdb : (x == ("__debug__" : Str)) = false := by decide) (he : starEach (e :: es) X.env = (false, eval e X.env) :: starEach es X.env := by rfl) (hpl : (backTo pos (starEach es X.env)).any (·.1) = false := by rfl) :
    PE X (.Call (.Name x p) (e :: es) [] pos) (tO c G (dCall F fs)) := de_call F1 tk hr hg hm hk hb ha hdb he hpl
def startR (n : Nat) (ds : List D) : Rho := ds.map some ++ List.replicate (n - ds.length) none
def G0 (ms : List Bool) (n : Nat) : List Ow := ms.map (fun m => if m then .b else .v) ++ List.replicate (n - ms.length) .v
def runF (n : Nat) (rm : Bool) (Fb : Rho → SR) (ds : List D) : Res D := match Fb (startR n ds) with
  | .rt d => .ok d
  | .nx _ => if rm then .bad else .ok .non
  | .er _ n ns vs => .err n ns vs
  | _ => .bad
theorem RpM.get {S H : Hp} : ∀ {ms : List Bool} {vs : List V} {ds : List D} {i : Nat} {d : D}, RpM c S H ms vs ds → ds[i]? = some d → ∃ v m, vs[i]? = some v ∧ ms[i]? = some m ∧ SlotOk c H S H (if m then .b else .v) v d
  | [], [], [], _, _, _, h => by simp at h
  | true :: ms, v :: vs, d :: ds, 0, e, h, q => by simp at q; subst q; exact ⟨v, true, by simp, by simp, h.1⟩
  | false :: ms, v :: vs, d :: ds, 0, e, h, q => by simp at q; subst q; exact ⟨v, false, by simp, by simp, h.1⟩
  | true :: ms, v :: vs, d :: ds, i + 1, e, h, q => by
    obtain ⟨v, m, h1, h2, h3⟩ := RpM.get (i := i) h.2 (by simpa using q)
    exact ⟨v, m, by simpa using h1, by simpa using h2, h3⟩
  | false :: ms, v :: vs, d :: ds, i + 1, e, h, q => by
    obtain ⟨v, m, h1, h2, h3⟩ := RpM.get (i := i) h.2 (by simpa using q)
    exact ⟨v, m, by simpa using h1, by simpa using h2, h3⟩
  | [], _ :: _, _, _, _, h, _ => h.elim
  | [], [], _ :: _, _, _, h, _ => h.elim
  | true :: _, [], _, _, _, h, _ => h.elim
  | true :: _, _ :: _, [], _, _, h, _ => h.elim
  | false :: _, [], _, _, _, h, _ => h.elim
  | false :: _, _ :: _, [], _, _, h, _ => h.elim
theorem RpM.len {S H : Hp} : ∀ {ms : List Bool} {vs : List V} {ds : List D}, RpM c S H ms vs ds → vs.length = ms.length ∧ ds.length = ms.length
  | [], [], [], _ => ⟨rfl, rfl⟩
  | true :: ms, v :: vs, d :: ds, h => by have := RpM.len h.2; simp [this.1, this.2]
  | false :: ms, v :: vs, d :: ds, h => by have := RpM.len h.2; simp [this.1, this.2]
  | [], _ :: _, _, h => h.elim
  | [], [], _ :: _, h => h.elim
  | true :: _, [], _, h => h.elim
  | true :: _, _ :: _, [], h => h.elim
  | false :: _, [], _, h => h.elim
  | false :: _, _ :: _, [], h => h.elim
theorem kd_G0 {ms : List Bool} {n i : Nat} : ¬ isO (kd (G0 ms n) i) := by
  unfold kd G0
  rw [List.getD_eq_getElem?_getD, List.getElem?_append]
  split
  · rw [List.getElem?_map]
    cases ms[i]? with
    | none => intro h; cases h
    | some m => cases m <;> (intro h; cases h)
  · rw [List.getElem?_replicate]
    split <;> (intro h; cases h)
theorem kd_G0_sw {ms : List Bool} {n i : Nat} : (∀ P, kd (G0 ms n) i ≠ .s P) ∧ kd (G0 ms n) i ≠ .w := by
  unfold kd G0
  rw [List.getD_eq_getElem?_getD, List.getElem?_append]
  split
  · rw [List.getElem?_map]
    cases ms[i]? with
    | none => exact ⟨fun _ h => (by cases h), fun h => (by cases h)⟩
    | some m => cases m <;> exact ⟨fun _ h => (by cases h), fun h => (by cases h)⟩
  · rw [List.getElem?_replicate]
    split <;> exact ⟨fun _ h => (by cases h), fun h => (by cases h)⟩
theorem kd_G0_at {ms : List Bool} {n i : Nat} {m : Bool} (h : ms[i]? = some m) : kd (G0 ms n) i = if m then .b else .v := by
  unfold kd G0
  have hl : i < ms.length := (List.getElem?_eq_some_iff.mp h).1
  rw [List.getD_eq_getElem?_getD, List.getElem?_append, if_pos (by simpa using hl), List.getElem?_map, h]
  rfl
theorem startR_some {n i : Nat} {ds : List D} {d : D} (h : (startR n ds)[i]? = some (some d)) : ds[i]? = some d := by
  unfold startR at h
  rw [List.getElem?_append] at h
  split at h
  · rw [List.getElem?_map] at h
    cases q : ds[i]? with
    | none => rw [q] at h; cases h
    | some e => rw [q] at h; cases h; rfl
  · rw [List.getElem?_replicate] at h
    split at h <;> cases h
theorem env_start {N : List Str} {S H : Hp} {vs : List V} {ds : List D} (ex : Ex S H) (m : RpM c S H ms vs ds) (hn : ms.length ≤ N.length) : EnvOk c S H (G0 ms N.length) S H (L2.start N vs) (startR N.length ds) := by
  have hl := m.len
  refine ⟨Fwd.refl ex, by unfold L2.start startR; simp [hl.1, hl.2], fun i d h => ?_, fun i j d e p _ _ k _ _ _ => absurd k kd_G0, ⟨[], .nil fun _ _ _ => kd_G0_sw⟩⟩
  have hd := startR_some h
  obtain ⟨v, mm, h1, h2, h3⟩ := m.get hd
  refine ⟨v, ?_, by rw [kd_G0_at h2]; exact h3⟩
  unfold L2.start
  have hlt : i < vs.length := (List.getElem?_eq_some_iff.mp h1).1
  rw [List.getElem?_append, if_pos (by simpa using hlt), List.getElem?_map, h1]
  rfl
end
section
variable {P : Program} {w : World} {K : PySem.W.Frag} {mg : Str → Option Value} {base : Heap} {cm : CM}
abbrev cfE (K : PySem.W.Frag) (cm : CM) (rm : Bool) (E : XK) : Cf := ⟨K, cm, fun cls d _ H => E cls d H, none, rm⟩
/-- THE RULE for a def: its body by data -/
theorem dok {x qual : Str} {st : Stmt} {f : Addr} {fd : FuncData} {N ps : List Str} {k : Nat} {ms : List Bool} {rm : Bool} {G' : List Ow} {Fb : Rho → SR} (F : Fun K x qual st f fd) (S : FnScope N ps (defScope st)) (hm : ms.length = ps.length) (hn : ps.length ≤ N.length)
    (hb : ∀ (cdv : Value) (A : Around) (outer : List Env) (s : Shared) (H : Hp) (E : XK), Room k (A.deeper (PyProof.Rows.envOfC qual (defScope st) s.heap.objs.size f cdv)) →
      PSs (cxOf (L2.CX P w) P w K mg base N qual (defScope st) f cdv A outer s H E) (defBody st) (sD (cfE K cm rm E) [] (G0 ms N.length) G' Fb)) :
    FnOk P w K mg base (L2.CX P w) (k + 1) f fd ps (spD K cm ms rm (runF N.length rm Fb)) := by
  refine F.okX S (fun vs H Q E h => ?_) (fun cdv A outer s H vs Q E hr h => ?_)
  · obtain ⟨S, ds, _, m, _⟩ := h
    rw [m.len.1, hm]
  · obtain ⟨S, ds, ex, m, q⟩ := h
    refine ⟨_, hb cdv A outer s H E hr, S, H, S, startR N.length ds, env_start ex (RpM.cf (c := ⟨K, cm, fun _ _ _ _ => False, none, rm⟩) (c' := cfE K cm rm E) rfl rfl m) (by omega), ?_⟩
    unfold runF at q
    cases hF : Fb (startR N.length ds) with
    | rt d =>
      rw [hF] at q
      show PostS _ _ _ _ _ (.rt d) _
      unfold PostS
      dsimp only
      cases rm with
      | true => exact fun p ho S' H' fw n ns hp hh => q S' H' fw _ ⟨p, ho, rfl, n, ns, hp, hh⟩
      | false => exact fun v S' H' fw hv => q S' H' fw v hv
    | nx r =>
      rw [hF] at q
      cases rm with
      | true => exact q.elim
      | false => exact fun σ' S' H' ok => q S' H' ok.fwd _ Rp.non
    | er r n ns vs =>
      rw [hF] at q
      exact fun C dd σ' S' H' fs h1 fw _ h2 h3 h4 => q C dd S' H' fs h1 fw h2 h3 h4
    | bk r => rw [hF] at q; exact q.elim
    | ct r => rw [hF] at q; exact q.elim
    | bad => rw [hF] at q; exact q.elim
end
end Dx
end S_DxF
section S_DxG
set_option Elab.async false
set_option linter.all false
set_option maxRecDepth 100000
set_option maxHeartbeats 2000000
namespace Dx
open PySem L2
section
variable {X : Cx} {c : Cf} {L G G' : List Ow}
def spX1 (K : PySem.W.Frag) (C : Addr) (f : Str) : Sp := fun vs H Q _ => ∃ (a : Addr) (w : V), vs = [.ref a, w] ∧ OexC K C ∧ PySem.W.findIn K (.ref C) f = some none ∧ H a = some (exo a C none) ∧
  ∀ d, H d = none → d ≠ a → Q .non (upd (upd H d (exd d [(f, w)])) a (exo a C (some d)))
theorem xinit1 {P : Program} {w : World} {K : PySem.W.Frag} {mg : Str → Option Value} {base : Heap} {qual : Str} {st : Stmt} {fI C : Addr} {fd : FuncData} {N ps : List Str} {fl : Str} (F : Fun K "__init__" qual st fI fd) (S : FnScope N ps (defScope st)) (hl : ps.length = 2) (hN : N.length = 2)
    (hb : ∀ (cdv : Value) (A : Around) (outer : List Env) (s : Shared) (H : Hp) (E : XK), PSs (cxOf (L2.CX P w) P w K mg base N qual (defScope st) fI cdv A outer s H E) (defBody st) (tOst K fl (tVar 0) (tVar 1))) :
    FnOk P w K mg base (L2.CX P w) 1 fI fd ps (spX1 K C fl) := by
  refine F.okX (k := 0) S (fun vs H Q E h => ?_) (fun cdv A outer s H vs Q E hr h => ?_)
  · obtain ⟨a, w, rfl, _⟩ := h; exact hl.symm
  · obtain ⟨a, w', rfl, T, hno, ha, q⟩ := h
    refine ⟨_, hb cdv A outer s H E, ?_⟩
    have e : L2.start N [.ref a, w'] = [some (.ref a), some w'] := by unfold L2.start; rw [hN]; rfl
    rw [e]
    exact ⟨w', rfl, .ref a, rfl, a, C, rfl, T, hno, .inl ⟨ha, q⟩⟩
def raiF (n : Str) (ns : List Str) (rev : Bool) (fs : Rho → Res (List D)) : Rho → SR := fun r => liftS r (fs r) fun ds => if ds.length = ns.length then .er r n ns (if rev then ds.reverse else ds) else .bad
variable {e e2 : Expr} {fs : Rho → Res (List D)} {x n : Str} {C fI : Addr} {fd : FuncData} {ps : List Str} {p p' pos : Pos} {fl gl : Str}
theorem heap_x1 {H1 : Hp} {a d C : Addr} {o1 o2 o3 o4 o : HO} (ha : H1 a = none) (hne : d ≠ a) : upd (del (upd (upd (upd H1 a o1) d o2) a o3) a) d o = upd H1 d o := by
  funext b
  by_cases hb : b = d
  · subst hb; rw [upd_same, upd_same]
  · rw [upd_ne hb, upd_ne hb]
    by_cases hba : b = a
    · subst hba; rw [del_same, ha]
    · rw [del_ne hba, upd_ne hba, upd_ne hb, upd_ne hba]
theorem ds_raise1 (hg : Gok c G) (hcn : c.cm n = some C) (hc : X.calm = true) (tk : Takes X c.W) (T : OexC X.K C) (iC : PySem.W.findIn X.K (.ref C) "__init__" = some (some (.ref fI))) (tI : PySem.W.typeIn X.K (.ref fI) = some (.type "function")) (hno : PySem.W.findIn X.K (.ref C) fl = some none)
    (F1 : FnOk X.prog X.w X.K X.mg X.base (L2.CX X.prog X.w) 1 fI fd ps (spX1 X.K C fl)) (hr : Room 2 X.A) (hb : Binds X.K fd ps []) (hgx : Gl X x) (hm : X.mg x = some (.ref C)) (ha : PA X [e] (tAs c G fs))
    (hdb : (x == ("__debug__" : Str)) = false := by decide) (he : starEach [e] X.env = (false, eval e X.env) :: starEach [] X.env := by rfl) :
    PS X (.Raise (some (.Call (.Name x p) [e] [] p')) none pos) (sD c L G G' (raiF n [fl] false fs)) :=
  ps_imp (ps_raise hc tk (pmk_oex T iC tI F1 hr hb .nil passL hgx hm ha hdb he rfl)) fun E σ H ⟨S0, H0, S, r, ok, q⟩ => st_seq hg ok q fun ds vs S1 H1 w1 o1 m1 p1 => by
    obtain ⟨hl, p1⟩ := p1.ite
    match ds, vs, m1, hl with
    | [d1], [v1], .cons hv .nil, _ =>
      refine ⟨by show 1 ≤ 1000; decide, fun a na => ⟨a, v1, rfl, T, hno, upd_same, fun d hd hne => ⟨rfl, d, [(fl, v1)], upd_same, by rw [upd_ne hne, upd_same], by rw [upd_ne hne] at hd; exact hd, ?_⟩⟩⟩
      rw [upd_ne hne] at hd
      rw [heap_x1 (C := C) (o4 := .lst []) na hne]
      exact p1 C d σ (upd S1 d (.xd [(fl, v1)])) _ [(fl, v1)] hcn (o1.fwd.trans (Fwd.both o1.ex hd)) (fun g hgg => by rw [hg g hgg]; exact o1.go (Fwd.both o1.ex hd)) upd_same rfl (.cons (hv.mono (Ex.new (o1.ex.nn hd))) .nil)
def unsetS (i : Nat) : SR → SR
  | .nx r => .nx (r.set i none)
  | .bk r => .bk (r.set i none)
  | .ct r => .ct (r.set i none)
  | .er _ _ _ _ => .bad
  | o => o
def tryF (isM : Str → Option Bool) (i : Nat) (Fb Fs : Rho → SR) : Rho → SR := fun r => match Fb r with
  | .er r' n ns vs => match isM n with
    | some true => unsetS i (Fs (r'.set i (some (.obj n ns vs))))
    | some false => .er r' n ns vs
    | none => .bad
  | o => o
theorem EnvOk.unset {S0 H0 S H : Hp} {σ : St} {r : Rho} (e : EnvOk c S0 H0 G S H σ r) (i : Nat) : EnvOk c S0 H0 (G.set i .v) S H (σ.set i none) (r.set i none) := by
  refine ⟨e.fwd, by simp [e.len], fun j d h => ?_, fun j k d d' p hj hk kj kk sj sk => ?_, let ⟨A, hA⟩ := e.sto; ⟨A, hA.sub (fun a ha => (hA.out a ha).1) (fun _ _ => rfl) Ex.refl (fun j d p hj kj sj => ?_) fun j d kj hj => ?_⟩⟩
  · rcases set_some h with ⟨_, z, _⟩ | ⟨ne, h⟩
    · cases z
    · obtain ⟨v, h1, h2⟩ := e.slot j d h
      exact ⟨v, by rw [List.getElem?_set_ne ne]; exact h1, by rw [kd_set_ne ne]; exact h2⟩
  · rcases set_some hj with ⟨_, z, _⟩ | ⟨nj, hj⟩
    · cases z
    · rcases set_some hk with ⟨_, z, _⟩ | ⟨nk, hk⟩
      · cases z
      · rw [kd_set_ne nj] at kj
        rw [kd_set_ne nk] at kk
        rw [List.getElem?_set_ne nj] at sj
        rw [List.getElem?_set_ne nk] at sk
        exact e.sep j k d d' p hj hk kj kk sj sk
  · rcases set_some hj with ⟨_, z, _⟩ | ⟨nj, hj⟩
    · cases z
    · rw [kd_set_ne nj] at kj
      rw [List.getElem?_set_ne nj] at sj
      exact hA.own j d p hj kj sj
  · rcases set_some hj with ⟨_, z, _⟩ | ⟨nj, hj⟩
    · cases z
    · rw [kd_set_ne nj, List.getElem?_set_ne nj]
      exact ⟨rfl, hj, rfl⟩
/-- the slot of a caught exception -/
theorem EnvOk.setX {c' : Cf} {S0 H0 S H : Hp} {σ : St} {r : Rho} {a C dd : Addr} {n : Str} {ns : List Str} {vs : List D} {fs : List (Str × V)} (e : EnvOk c S0 H0 G S H σ r) (hK : c'.K = c.K) (hcm : c'.cm = c.cm) (i : Nat) (hi : i < G.length) (h1 : c.cm n = some C) (h2 : S dd = some (.xd fs)) (h3 : ns = fs.map (·.1)) (h4 : RpA c.K c.cm S (fs.map (·.2)) vs) :
    EnvOk c' S0 H0 (G.set i (.x a C dd)) S H (σ.set i (some (.ref a))) (r.set i (some (.obj n ns vs))) := by
  have sl : ∀ k v d, SlotOk c H0 S H k v d → SlotOk c' H0 S H k v d := fun k v d h => by
    cases k with
    | v => unfold SlotOk at h ⊢; rw [hK, hcm]; exact h
    | o => unfold SlotOk at h ⊢; rw [hK, hcm]; exact h
    | b => unfold SlotOk at h ⊢; rw [hK, hcm]; exact h
    | s P => exact h
    | w => exact h
    | x a C dd => unfold SlotOk at h ⊢; rw [hK, hcm]; exact h
    | i a => unfold SlotOk at h ⊢; rw [hK, hcm]; exact h
  have sto' : ∃ A, StoOk c'.K c'.cm H0 (G.set i (.x a C dd)) S H (σ.set i (some (.ref a))) (r.set i (some (.obj n ns vs))) A := by
    obtain ⟨A, hA⟩ := e.sto
    rw [hK, hcm]
    refine ⟨A, hA.sub (fun a ha => (hA.out a ha).1) (fun _ _ => rfl) Ex.refl (fun j d p hj kj sj => ?_) fun j d kj hj => ?_⟩
    · have nj : i ≠ j := fun z => by subst z; rw [kd_set_o hi] at kj; cases kj
      rw [List.getElem?_set_ne nj] at hj sj
      rw [kd_set_ne nj] at kj
      exact hA.own j d p hj kj sj
    · have nj : i ≠ j := fun z => by subst z; rw [kd_set_o hi] at kj; rcases kj with ⟨_, kj⟩ | kj <;> cases kj
      rw [List.getElem?_set_ne nj] at hj
      rw [kd_set_ne nj, List.getElem?_set_ne nj]
      exact ⟨rfl, hj, rfl⟩
  refine ⟨e.fwd, by simp [e.len], fun j d h => ?_, fun j k d d' p hj hk kj kk sj sk => ?_, sto'⟩
  · rcases set_some h with ⟨rfl, z, hl⟩ | ⟨ne, h⟩
    · cases z
      refine ⟨.ref a, by rw [List.getElem?_set_self (by rw [e.len]; exact hl)], ?_⟩
      rw [kd_set_o hi]
      exact ⟨rfl, n, ns, vs, fs, rfl, by rw [hcm]; exact h1, h2, h3, by rw [hK, hcm]; exact h4⟩
    · obtain ⟨v, q1, q2⟩ := e.slot j d h
      exact ⟨v, by rw [List.getElem?_set_ne ne]; exact q1, by rw [kd_set_ne ne]; exact sl _ _ _ q2⟩
  · have nj : i ≠ j := fun z => by subst z; rw [kd_set_o hi] at kj; cases kj
    have nk : i ≠ k := fun z => by subst z; rw [kd_set_o hi] at kk; cases kk
    rw [List.getElem?_set_ne nj] at hj sj
    rw [List.getElem?_set_ne nk] at hk sk
    rw [kd_set_ne nj] at kj
    rw [kd_set_ne nk] at kk
    exact e.sep j k d d' p hj hk kj kk sj sk
/-- the kinds told ahead; what they are is the same whatever the wishes -/
theorem EnvOk.cf {c' : Cf} {S0 H0 S H : Hp} {σ : St} {r : Rho} (e : EnvOk c S0 H0 G S H σ r) (hK : c'.K = c.K) (hcm : c'.cm = c.cm) : EnvOk c' S0 H0 G S H σ r := by
  refine ⟨e.fwd, e.len, fun j d h => ?_, e.sep, by rw [hK, hcm]; exact e.sto⟩
  obtain ⟨v, q1, q2⟩ := e.slot j d h
  refine ⟨v, q1, ?_⟩
  cases kj : kd G j with
  | v => rw [kj] at q2; unfold SlotOk at q2 ⊢; rw [hK, hcm]; exact q2
  | o => rw [kj] at q2; unfold SlotOk at q2 ⊢; rw [hK, hcm]; exact q2
  | b => rw [kj] at q2; unfold SlotOk at q2 ⊢; rw [hK, hcm]; exact q2
  | s P => rw [kj] at q2; exact q2
  | w => rw [kj] at q2; exact q2
  | x a C dd => rw [kj] at q2; unfold SlotOk at q2 ⊢; rw [hK, hcm]; exact q2
  | i a => rw [kj] at q2; unfold SlotOk at q2 ⊢; rw [hK, hcm]; exact q2
abbrev Cf.try (c : Cf) (W : WX) (G : List Ow) : Cf := ⟨c.K, c.cm, W, some G, c.rm⟩
theorem ds_try {nm xn : Str} {cv : Value} {i : Nat} {body suite : List Stmt} {b0 : Stmt} {np p1 : Pos} {isM : Str → Option Bool} {Fb Fs : Rho → SR} {Gs : List Ow} (hge : Gok c G) (hs : X.stack = X.env :: X.outer) (hf : X.env.frame = some X.env.locals) (hN : X.N.Nodup) (hi : X.N[i]? = some nm) (hln : X.env.kindOf nm = some .local) (hc : Names X xn cv) (tk : Takes X c.W)
    (hG : i < G.length) (hM : ∀ n C b, c.cm n = some C → isM n = some b → PySem.W.exmOne X.K (.ref C) cv = some b)
    (hb : ∀ (W : WX) (pn : List (Addr × Obj)) (xe : Value → Shared → Prop), Takes (X.tr pn xe) W → PassesOwn (model X.prog X.w) X.A X.env xe → PSs (X.tr pn xe) body (sD (c.try W G) L G G' Fb))
    (hsu : ∀ (a C dd : Addr) (oe : Obj) (pn : List (Addr × Obj)), (∃ n, c.cm n = some C ∧ isM n = some true) → Zc (.ref C) (some dd) oe → (∃ vs, oe.data = .fields vs) → PSs (X.suite a ((a, oe) :: pn)) (b0 :: suite) (sD c.calm (L.set i (.x a C dd)) (G.set i (.x a C dd)) (Gs.set i (.x a C dd)) Fs))
    (hGs : Gs.set i .v = G') (hL : L.set i .v = L) :
    PS X (.Try body [.ExceptHandler (some (.Name xn np)) (some nm) (b0 :: suite) p1] [] [] pos) (sD c L G G' (tryF isM i Fb Fs)) := by
  refine ps_imp (ps_try_as (tb := fun W => sD (c.try W G) L G G' Fb) (ts := fun a cls d => fun E σ H => ∃ C dd, cls = .ref C ∧ d = some dd ∧ (∃ n, c.cm n = some C ∧ isM n = some true) ∧ sD c.calm (L.set i (.x a C dd)) (G.set i (.x a C dd)) (Gs.set i (.x a C dd)) Fs E σ H) hs hf hN hi hln hc tk hb ?_) ?_
  · intro a oe cls d pn hz hff
    refine ⟨fun pins s σ H E I ⟨C, dd, hC, hd, hin, q⟩ => ?_⟩
    subst hC hd
    exact (hsu a C dd oe pn hin hz hff).run pins s σ H E I q
  · rintro E σ H ⟨S0, H0, S, r, ok, p⟩
    refine ⟨S0, H0, S, r, ok.cf rfl rfl, ?_⟩
    unfold tryF at p
    cases hF : Fb r with
    | nx r' => rw [hF] at p; exact fun σ' S' H' e => p σ' S' H' (e.cf rfl rfl)
    | rt d => rw [hF] at p; exact p
    | bk r' => rw [hF] at p; exact fun σ' S' H' e => p σ' S' H' (e.cf rfl rfl)
    | ct r' => rw [hF] at p; exact fun σ' S' H' e => p σ' S' H' (e.cf rfl rfl)
    | bad => rw [hF] at p; exact p.elim
    | er r' n ns vs =>
      rw [hF] at p
      intro C dd σ' S' H' fs h1 fw h2 h3 h4 h5
      have e1 : EnvOk (c.try _ G) S0 H0 G S' H' σ' r' := h2 G rfl
      dsimp only at p
      cases hI : isM n with
      | none => rw [hI] at p; exact p.elim
      | some b =>
        rw [hI] at p
        refine ⟨b, hM n C b h1 hI, fun hb1 a ha => ?_, fun hb0 => ?_⟩
        · subst hb1
          refine ⟨C, dd, rfl, rfl, ⟨n, h1, hI⟩, S0, H0, S', _, e1.setX (c' := c.calm) (a := a) rfl rfl i hG h1 h3 h4 h5, ?_⟩
          have p : PostS c S0 H0 L G' (unsetS i (Fs (r'.set i (some (.obj n ns vs))))) E := p
          cases hS : Fs (r'.set i (some (.obj n ns vs))) with
          | nx r2 =>
            rw [hS] at p
            intro σ2 S2 H2 e2
            have := (EnvOk.cf (c' := c) e2 rfl rfl).unset i
            rw [List.set_set, hGs] at this
            exact p _ S2 H2 this
          | rt d => rw [hS] at p; exact p
          | bk r2 =>
            rw [hS] at p
            intro σ2 S2 H2 e2
            have := (EnvOk.cf (c' := c) e2 rfl rfl).unset i
            rw [List.set_set, hL] at this
            exact p _ S2 H2 this
          | ct r2 =>
            rw [hS] at p
            intro σ2 S2 H2 e2
            have := (EnvOk.cf (c' := c) e2 rfl rfl).unset i
            rw [List.set_set, hL] at this
            exact p _ S2 H2 this
          | er _ _ _ _ => rw [hS] at p; exact p.elim
          | bad => rw [hS] at p; exact p.elim
        · subst hb0
          exact p C dd σ' S' H' fs h1 fw (fun g hg => by rw [hge g hg]; exact EnvOk.cf (c' := c) e1 rfl rfl) h3 h4 h5
def lookF (ns : List Str) (vs : List D) (f : Str) : Option D := (ns.zip vs).lookup f
def dXf (i : Nat) (f : Str) : Rho → Res D := fun r => match r[i]? with
  | some (some (.obj _ ns vs)) => match lookF ns vs f with
    | some d => .ok d
    | none => .bad
  | _ => .bad
theorem look_rp {K : PySem.W.Frag} {cm : CM} {S : Hp} {f : Str} {d : D} : ∀ {fs : List (Str × V)} {vs : List D}, RpA K cm S (fs.map (·.2)) vs → lookF (fs.map (·.1)) vs f = some d → ∃ v, fs.lookup f = some v ∧ Rp K cm S v d
  | [], vs, h, q => by cases h; cases q
  | (g, u) :: fs, _, h, q => by
    cases h with | @cons _ _ d' ds hu hr =>
    unfold lookF at q
    rw [List.map_cons, List.zip_cons_cons, List.lookup_cons] at q
    rw [List.lookup_cons]
    by_cases hfg : (f == g) = true
    · rw [hfg] at q ⊢; cases q; exact ⟨u, rfl, hu⟩
    · have : (f == g) = false := by simpa using hfg
      rw [this] at q ⊢
      exact look_rp hr q
theorem de_xf {a C dd : Addr} {oe : Obj} {pn : List (Addr × Obj)} {i : Nat} {nm f : Str} {pn' : Pos} (T : XfC X.K C) (hno : PySem.W.findIn X.K (.ref C) f = some none) (k : kd G i = .x a C dd)
    (hz : Zc (.ref C) (some dd) oe) (hf : ∃ vs, oe.data = .fields vs) (he : PE (X.suite a ((a, oe) :: pn)) (.Name nm pn') (tVar i)) (hb : attributeBase (.Name nm pn') f X.env (eval (.Name nm pn') X.env) = eval (.Name nm pn') X.env := by rfl) :
    PE (X.suite a ((a, oe) :: pn)) (.Attribute (.Name nm pn') f pos) (tV c G (dXf i f)) := pe_imp (pe_xf T hno hz hf he hb) fun σ H Q ⟨S0, H0, S, r, ok, p⟩ => by
  unfold dXf at p
  split at p
  · rename_i n ns vs hr
    obtain ⟨v, h1, h2⟩ := ok.slot i _ hr
    rw [k] at h2
    obtain ⟨rfl, n', ns', ds', fs, z1, z2, z3, z4, z5⟩ := h2
    cases z1
    split at p
    · rename_i d hd
      rw [z4] at hd
      obtain ⟨u, q1, q2⟩ := look_rp z5 hd
      exact ⟨.ref a, h1, rfl, rfl, dd, fs, u, rfl, ok.ex _ _ z3, q1, p.here ok.ex q2⟩
    · exact p.elim
  · exact p.elim
/-- isinstance(e, c), e the exception that the suite holds -/
def rIsX (K : PySem.W.Frag) (C a dd : Addr) : List V → Hp → VK → Prop := fun xs H Q => ∃ (c : V) (cv : Value) (b : Bool) (fs : List (Str × V)), xs = [.ref a, c] ∧ (∀ u, RelV c u → u = cv) ∧ H dd = some (.xd fs) ∧ PySem.W.kitOne K (.ref C) cv = some b ∧ Q (.bl b) H
theorem call_isX {a C dd : Addr} {oe : Obj} {pn : List (Addr × Obj)} (T : ExcC X.K C) (hz : Zc (.ref C) (some dd) oe) (hf : ∃ vs, oe.data = .fields vs) : CallR (X.suite a ((a, oe) :: pn)) (.builtin "isinstance") (rIsX X.K C a dd) := by
  intro pins s σ H xs us Q I r h
  obtain ⟨cc, cv, b, fs, rfl, hcv, hdd, hk, q⟩ := h
  match us, r with
  | [u1, u2], .cons rx (.cons rt .nil) =>
    cases rx
    have ec := hcv _ rt
    subst ec
    have hpin := (I.pin (a, oe) (List.mem_append_left _ List.mem_cons_self)).1
    obtain ⟨vs, hv⟩ := hf
    have hx : ObjOk X.prog X.w H s.heap dd (.xd fs) := I.hok dd _ hdd
    obtain ⟨mA, hns, _⟩ := hx
    obtain ⟨od, ho, _⟩ := lookIn_ns hns
    have J : PySem.W.InstAt s.heap a oe C (some od) := ⟨hpin, hz.1, by unfold PySem.W.notCls; rw [hv], by rw [hz.2]; exact ho⟩
    have hcl : (PySem.W.clsIn X.K C).isSome = true := by
      have h1 := T.hd
      unfold PySem.W.hasDictIn at h1
      cases hc : PySem.W.clsIn X.K C with
      | none => rw [hc] at h1; cases h1
      | some _ => rfl
    exact PySem.W.kia_one (PySem.W.kitx_exc hcl T.hg T.hk T.hs T.ha T.hn T.ht T.hm) I.kIn J hk (fun z => nomatch z) fun tk => ⟨.bl b, H, I.kept (t' := tk) fun _ _ z => z, rfl, q⟩
/-- isM: which of the classes that are caught are of this class -/
def dIsX (isM : Str → Option Bool) (i : Nat) : Rho → Res D := fun r => match r[i]? with
  | some (some (.obj n _ _)) => match isM n with
    | some b => .ok (.bl b)
    | none => .bad
  | _ => .bad
theorem de_isX {a C dd : Addr} {oe : Obj} {pn : List (Addr × Obj)} {i : Nat} {nm xc : Str} {pn' pc : Pos} {isM : Str → Option Bool} {v : V} {cv : Value} (k : kd G i = .x a C dd) (T : ExcC X.K C) (hz : Zc (.ref C) (some dd) oe) (hf : ∃ vs, oe.data = .fields vs)
    (hcv : ∀ u, RelV v u → u = cv) (hM : ∀ n b, c.cm n = some C → isM n = some b → PySem.W.kitOne X.K (.ref C) cv = some b)
    (hm : X.mg "isinstance" = none) (hg : Gl X "isinstance") (hv : PE (X.suite a ((a, oe) :: pn)) (.Name nm pn') (tVar i)) (hT : PE (X.suite a ((a, oe) :: pn)) (.Name xc pc) (tC v))
    (hs1 : starEach [.Name nm pn', .Name xc pc] X.env = (false, eval (.Name nm pn') X.env) :: starEach [.Name xc pc] X.env := by rfl) (hs2 : starEach [.Name xc pc] X.env = (false, eval (.Name xc pc) X.env) :: starEach [] X.env := by rfl) (hpl : (backTo pos (starEach [.Name xc pc] X.env)).any (·.1) = false := by rfl) :
    PE (X.suite a ((a, oe) :: pn)) (.Call (.Name "isinstance" p) [.Name nm pn', .Name xc pc] [] pos) (tV c G (dIsX isM i)) := by
  refine pe_imp (pe_callB (call_isX T hz hf) hg hm (by decide +kernel) (pa_cons hv (pa_cons hT pa_nil hs2) hs1) (he := hs1) (hpl := hpl)) fun σ H Q ⟨S0, H0, S, r, ok, p⟩ => ?_
  unfold dIsX at p
  split at p
  · rename_i n ns vs hr
    obtain ⟨v', h1, h2⟩ := ok.slot i _ hr
    rw [k] at h2
    obtain ⟨rfl, n', ns', ds', fs, z1, z2, z3, z4, z5⟩ := h2
    cases z1
    split at p
    · rename_i b hb
      exact ⟨.ref a, h1, v, cv, b, fs, rfl, hcv, ok.ex _ _ z3, hM n b z2 hb, p.here ok.ex (.bl _)⟩
    · exact p.elim
  · exact p.elim
end
end Dx
end S_DxG
section S_DxT
set_option Elab.async false
set_option linter.all false
set_option maxRecDepth 100000
set_option maxHeartbeats 2000000
namespace Dx
open PySem L2
theorem gok0 {K : PySem.W.Frag} {cm : CM} {rm : Bool} {E : XK} {G : List Ow} : Gok (cfE K cm rm E) G := fun _ h => nomatch h
theorem gokC {c : Cf} {G : List Ow} : Gok c.calm G := fun _ h => nomatch h
theorem gokT {c : Cf} {W : WX} {G : List Ow} : Gok (c.try W G) G := fun _ h => (Option.some.inj h).symm
theorem fnok_bad {P : Program} {w : World} {K : PySem.W.Frag} {mg : Str → Option Value} {base : Heap} {CX : CXT} {k : Nat} {f : Addr} {fd : FuncData} {ps : List Str} {cm : CM} {ms : List Bool} {rm : Bool} : FnOk P w K mg base CX k f fd ps (spD K cm ms rm fun _ => .bad) :=
  ⟨fun _ _ _ _ ⟨_, _, _, _, h⟩ => h.elim, fun _ _ _ _ _ _ _ _ _ _ _ _ _ ⟨_, _, _, _, h⟩ => h.elim⟩
theorem ints_rp {K : PySem.W.Frag} {cm : CM} {S : Hp} : ∀ ns : List Int, RpA K cm S (ns.map V.int) (ns.map D.int)
  | [] => .nil
  | n :: ns => .cons (.int n) (ints_rp ns)
theorem law_sp {K : PySem.W.Frag} {cm : CM} {F : List D → Res D} {ns : List Int} {H : Hp} {a : Addr} {Q : VK} {E : XK} (h : F [.fz (ns.map D.int)] = .ok (.bl true)) (hS : SqL K H a (ns.map V.int)) (k : ∀ H', Q (.bl true) H') : spD K cm [false] false F [.ref a] H Q E :=
  ⟨H, [.fz (ns.map D.int)], Ex.refl, ⟨.fz hS (ints_rp ns), trivial⟩, by
    rw [h]
    intro S' H' w b hb
    cases hb
    exact k H'⟩
theorem cx_never {P : Program} {w : World} {outer : List Env} {H : Hp} {s s' : Shared} {e : Value} (h : L2.CX P w outer H s (fun _ _ _ => False) e s') : False := by
  obtain ⟨_, _, _, _, _, _, _, _, _, _, _, _, hf⟩ := h
  exact hf
section
variable {X : Cx} {c : Cf} {L G G' : List Ow} {f f1 f2 : Rho → Res D} {o e : Expr} {pos apos : Pos}
def asS : D → Res Str
  | .str s => .ok s
  | _ => .bad
def dStr (g : D → D → Res D) (f1 f2 : Rho → Res D) : Rho → Res D := fun r => (f1 r).bind fun x => (asS x).bind fun _ => (f2 r).bind fun y => g x y
def strsD (zs : List Str) : List D := zs.map .str
noncomputable def splitD : D → D → Res D
  | .str a, .str b => guard ((b.length == 0) = false ∧ a.length + 2 ≤ sizeLine) (.ok (.lst (strsD (Txt.split a b))))
  | _, _ => .bad
def startD : D → D → Res D
  | .str a, .str b => .ok (.bl (Txt.startswith a b))
  | _, _ => .bad
def endD : D → D → Res D
  | .str a, .str b => .ok (.bl (Txt.endswith a b))
  | _, _ => .bad
noncomputable def ordX : D → Res D
  | .str x => guard (x.length = 1) (.ok (.int (x.cps.getD 0 0 : Nat)))
  | _ => .bad
noncomputable def fmtD : D → Res D
  | .str y => guard (y.length ≤ sizeLine) (.ok (.str y))
  | .int i => guard (i.natAbs.log2 < 1920) (.ok (.str (toString i)))
  | _ => .bad
def dJnil : Str → Rho → Res D := fun acc _ => .ok (.str acc)
noncomputable def dJcons (f : Rho → Res D) (g : Str → Rho → Res D) : Str → Rho → Res D := fun acc r => (f r).bind fun d => (asS d).bind fun y => guard ((acc ++ y).length ≤ sizeLine) (g (acc ++ y) r)
def dJoin (g : Str → Rho → Res D) : Rho → Res D := g Str.empty
noncomputable def truB : D → Res Bool
  | .non => .ok false
  | .bl b => .ok b
  | .int i => .ok (i != 0)
  | .str y => guard (y.length ≤ sizeLine) (.ok ((y.length : Int) != 0))
  | .lst ds => .ok (!ds.isEmpty)
  | .fz ds => .ok (!ds.isEmpty)
  | .tup ds => .ok (!ds.isEmpty)
  | _ => .bad
noncomputable def dTru (f : Rho → Res D) : Rho → Res Bool := fun r => (f r).bind truB
theorem RpA.empty {K : PySem.W.Frag} {cm : CM} {S : Hp} {vs : List V} {ds : List D} (h : RpA K cm S vs ds) : (!ds.isEmpty) = !vs.isEmpty := by cases h <;> rfl
theorem dt_tru (he : PE X e (tR c G f)) (hw : ∀ whole, isTrue e X.env whole = (do let v ← whole; standAt e.pos; holding [v] (truthy v))) (hK : c.K = X.K := by rfl) : PT X e (tT c G (dTru f)) :=
  pt_imp (pt_truth he hw) fun σ H Q ⟨S0, H0, S, r, ok, p⟩ => rd_seq ok p fun d v S1 H1 w1 o1 m1 p1 => by
    rw [← hK]
    cases d with
    | non => cases RpB.non m1; exact ⟨_, rfl, p1.go o1.ex _ rfl⟩
    | bl b => cases RpB.bl m1; exact ⟨_, rfl, p1.go o1.ex _ rfl⟩
    | int i => cases RpB.int m1; exact ⟨_, rfl, p1.go o1.ex _ rfl⟩
    | str y =>
      cases RpB.str m1
      obtain ⟨hl, p1⟩ := p1.gd
      exact ⟨_, ⟨hl, rfl⟩, p1.go o1.ex _ rfl⟩
    | lst ds => obtain ⟨q, xs, rfl, a1, r1⟩ := RpB.list m1 o1.ex; exact ⟨_, .inl ⟨xs, .inl (.inl a1), r1.empty⟩, p1.go o1.ex _ rfl⟩
    | fz ds => obtain ⟨q, xs, rfl, a1, r1⟩ := RpB.fz m1 o1.ex; exact ⟨_, .inl ⟨xs, a1, r1.empty⟩, p1.go o1.ex _ rfl⟩
    | tup ds => obtain ⟨q, xs, rfl, a1, r1, s1⟩ := RpB.tup m1 o1.ex; exact ⟨_, .inr (.inl ⟨xs, a1, r1.empty⟩), p1.go o1.ex _ rfl⟩
    | _ => exact p1.elim
def augF (i : Nat) (g : D → D → Res D) (f : Rho → Res D) : Rho → SR := fun r => liftS r (dVar i r) fun x => liftS r (f r) fun y => liftS r (g x y) fun z => .nx (r.set i (some z))
end
end Dx
end S_DxT
section S_DxS
set_option Elab.async false
set_option linter.all false
set_option maxRecDepth 100000
set_option maxHeartbeats 2000000
namespace Dx
open PySem L2
/-- new own lists that stand in each other -/
def mG (c : Cf) : Md V D := fun H S' H' v d => ∃ k M A, d = .st k M ∧ A.Nodup ∧ A.length = M.length ∧ (∃ a, A[k]? = some a ∧ v = .ref a) ∧ (∀ a ∈ A, H a = none ∧ S' a = none) ∧
  ∀ (n : Nat) row, M[n]? = some row → ∃ a xs, A[n]? = some a ∧ H' a = some (.lst xs) ∧ RmA c.K c.cm A S' xs row
instance {c : Cf} : Anti (mG c) := ⟨fun e ⟨k, M, A, h1, h2, h3, h4, h5, h6⟩ => ⟨k, M, A, h1, h2, h3, h4, fun a ha => ⟨e.nn (h5 a ha).1, (h5 a ha).2⟩, h6⟩⟩
section
variable {X : Cx} {c : Cf} {L G G' : List Ow} {σ : St} {S0 H0 S H S' H' : Hp} {r : Rho}
variable {e : Expr} {pos : Pos} {f : Rho → Res D}
def isOwn : D → Bool
  | .own _ => true
  | .st _ _ => true
  | _ => false
theorem RmA.plain {A : List Addr} {xs : List V} {row : List D} (h : RmA c.K c.cm A S xs row) (hp : row.all (fun d => !isOwn d) = true) : RpA c.K c.cm S xs row := by
  obtain ⟨hl, h⟩ := h
  induction row generalizing xs with
  | nil =>
    cases xs with
    | nil => exact .nil
    | cons _ _ => cases hl
  | cons d row ih =>
    cases xs with
    | nil => cases hl
    | cons v xs =>
      rw [List.all_cons, Bool.and_eq_true] at hp
      refine .cons ?_ (ih hp.2 (by simpa using hl) fun i v d hv hd => h (i + 1) v d (by simpa using hv) (by simpa using hd))
      rcases h 0 v d rfl rfl with z | ⟨k, a, rfl, _⟩
      · exact z
      · cases hp.1
theorem RmA.atI {A : List Addr} {xs : List V} {row : List D} {j : Int} {d : D} (h : RmA c.K c.cm A S xs row) (q : L2.atI row j = some d) : ∃ v, L2.atI xs j = some v ∧ RmV c.K c.cm A S v d := by
  unfold L2.atI at q ⊢
  rw [h.1]
  cases hj : ixN row.length j with
  | none => rw [hj] at q; cases q
  | some n =>
    rw [hj] at q
    have q : row[n]? = some d := q
    have hlt : n < xs.length := by rw [h.1]; exact (List.getElem?_eq_some_iff.mp q).1
    exact ⟨xs[n], List.getElem?_eq_getElem hlt, h.2 n _ d (List.getElem?_eq_getElem hlt) q⟩
theorem RmA.set {A : List Addr} {xs : List V} {row : List D} {v : V} {d : D} (h : RmA c.K c.cm A S xs row) (hv : Rp c.K c.cm S v d) (n : Nat) : RmA c.K c.cm A S (xs.set n v) (row.set n d) := by
  refine ⟨by rw [List.length_set, List.length_set]; exact h.1, fun i u e hu he => ?_⟩
  rw [List.getElem?_set] at hu he
  split at hu
  · rename_i hni
    rw [if_pos hni] at he
    split at hu
    · cases hu
      split at he
      · cases he; exact .inl hv
      · cases he
    · cases hu
  · rename_i hni
    rw [if_neg hni] at he
    exact h.2 i u e hu he
end
end Dx
end S_DxS
section S_DxU
set_option Elab.async false
set_option linter.all false
set_option maxRecDepth 100000
set_option maxHeartbeats 2000000
namespace Dx
open PySem L2
def optL (g : D → Option D) : List D → Option (List D)
  | [] => some []
  | d :: ds => match g d, optL g ds with
    | some e, some es => some (e :: es)
    | _, _ => none
def derefD : Nat → List (List D) → D → Option D
  | _, _, .st _ _ => none
  | 0, _, .own _ => none
  | n + 1, M, .own k => match M[k]? with
    | some row => match optL (derefD n M) row with
      | some ds => some (.lst ds)
      | none => none
    | none => none
  | _, _, d => some d
section
variable {X : Cx} {c : Cf} {L G G' : List Ow} {σ : St} {S0 H0 S H S' H' : Hp} {r : Rho}
/-- all the own lists of slot i become values; the slots ws, that hold some of them, are given up -/
def pubF (n i : Nat) (ws : List Nat) : Rho → SR := fun r => match r[i]? with
  | some (some (.st k M)) => match derefD n M (.own k) with
    | some d => .nx ((wipeR r ws).set i (some d))
    | none => .bad
  | _ => .bad
end
end Dx
end S_DxU
section S_DxV
set_option Elab.async false
set_option linter.all false
set_option maxRecDepth 100000
set_option maxHeartbeats 2000000
namespace Dx
open PySem L2
section
variable {prog : Program} {w : World} {A : Around} {E : Value → Shared → Prop} {s : Shared}
theorem drawsT (hh : A.handled = none) (it l : Addr) (hne : l ≠ it) (its : Array Value) : Draws prog w A it [it, l] its.size (fun i v => its[i]? = some v) (fun i h => h.IsTupleIter it l i ∧ h.IsTuple l its) where
  live := fun _ _ st => let ⟨o, ho, _⟩ := st.1; ⟨o, ho⟩
  frame := fun _ _ _ st hk => ⟨st.1.at fun o z => hk it (by simp) o z, let ⟨o, ho, r⟩ := st.2; ⟨o, hk l (by simp) o ho, r⟩⟩
  item := fun i s Q E hi st hQ => RZ.nextOf_tuple_item st.1 st.2 (x := its[i]) (by simp [hi]) fun h' h1 h2 =>
    hQ _ h' s.toks (by simp [hi]) ⟨h1, st.2.extBut h2.extBut hne⟩ h2
  done := fun s Q E st hE => RZ.nextOf_tuple_end hh st.1 st.2 (by simp) hE
theorem meets_enT (l : Addr) (its : Array Value) (n : Nat) (dct : Option Addr) (sl : Array (Option Value)) :
    Meets (Builtin.«enumerate.__new__» ⟨[.type "enumerate", .ref l], []⟩) (fun _ R s => s.heap.get? l = some { cls := .type "tuple", dict := dct, data := .seq its n, slots := sl } ∧
      R (.ok (.ret (.ref (s.heap.push { cls := .type "tuple_iterator", data := .fields #[.ref l, .int 0 0] }).objs.size)))
        { s with heap := (s.heap.push { cls := .type "tuple_iterator", data := .fields #[.ref l, .int 0 0] }).push { cls := .type "enumerate", data := .fields #[.none, .bool false, .ref s.heap.objs.size, rawInt 0, .none, .none] } }) :=
  .of_wp fun prog w A R s h => by
    obtain ⟨hp, g, d, tk, os⟩ := s; obtain ⟨hl, h⟩ := h
    have hsub := sub_enumerate
    have hT : Heap.IsTuple (Shared.heap ⟨hp, g, d, tk, os⟩) l its := ⟨_, hl, rfl, n, rfl⟩
    wp_walk using AutoSeq1.wpAny_loadPart' hl
    refine wpAny_stack_any fun st => wpAny_pure ?_
    split
    · rename_i c _ _ _ _ _
      cases (c == Value.type "enumerate")
      · wp_walk using AutoSeq1.wpAny_loadPart' hl, wpAny_pyIter_tuple hT
        exact ⟨_, rfl, h⟩
      · wp_walk using AutoSeq1.wpAny_loadPart' hl, wpAny_pyIter_tuple hT
        exact ⟨_, rfl, h⟩
    · wp_walk using AutoSeq1.wpAny_loadPart' hl, wpAny_pyIter_tuple hT
      exact ⟨_, rfl, h⟩
theorem call_enT {l : Addr} {its : Array Value} {Q : Value → Shared → Prop} (hL : s.heap.IsTuple l its)
    (h : ∀ h', IsEnum h' (s.heap.objs.size + 1) s.heap.objs.size 0 .none → h'.IsTupleIter s.heap.objs.size l 0 →
      (∀ b o, s.heap.get? b = some o → h'.get? b = some o) → Q (.ref (s.heap.objs.size + 1)) { s with heap := h' }) :
    wpAny (model prog w) A (call (.type "enumerate") [.ref l]) Q E s := by
  obtain ⟨⟨c, dct, dt, sl⟩, hl, hc, n, hd⟩ := hL
  replace hc : c = .type "tuple" := hc
  replace hd : dt = .seq its n := hd
  subst hc hd
  refine callType_new F.called_enumerate (by decide) (F.typeCall_enumerate_1 _) (F.newCall_enumerate_1 _) (fun obj => F.args_object_init_2 obj _) F.entry_enumerate_new (meets_enT l its n dct sl) ⟨hl, ?_⟩
  have hz : (s.heap.push { cls := .type "tuple_iterator", data := .fields #[.ref l, .int 0 0] }).objs.size = s.heap.objs.size + 1 := Heap.size_push ..
  show _ ∧ _
  rw [hz]
  have he : IsEnum ((s.heap.push { cls := .type "tuple_iterator", data := .fields #[.ref l, .int 0 0] }).push
      { cls := .type "enumerate", data := .fields #[.none, .bool false, .ref s.heap.objs.size, rawInt 0, .none, .none] }) (s.heap.objs.size + 1) s.heap.objs.size 0 .none := by
    have := Heap.get?_push_size (s.heap.push { cls := .type "tuple_iterator", data := .fields #[.ref l, .int 0 0] })
      (o := { cls := .type "enumerate", data := .fields #[.none, .bool false, .ref s.heap.objs.size, rawInt 0, .none, .none] }) rfl
    rw [hz] at this; exact this
  exact ⟨⟨_, he, rfl⟩, h _ he ⟨_, Heap.get?_push_of_some _ (Heap.get?_push_size _ rfl), rfl, rfl⟩ fun b o x => Heap.get?_push_of_some _ (Heap.get?_push_of_some _ x)⟩
end
def IteT (K : PySem.W.Frag) (a : Addr) : It :=
  ⟨fun i H => ∃ (xs : List V) (x : V), SqT K H a xs ∧ xs[i]? = some x, fun i H v H' => ∃ T x, v = .ref T ∧ H T = none ∧ H' = upd H T (.tup [.int (i : Nat), x]) ∧ ∀ xs, SqT K H a xs → xs[i]? = some x, fun i H => ∃ xs : List V, SqT K H a xs ∧ xs.length ≤ i⟩
theorem turn_enT {P : Program} {w : World} {K : PySem.W.Frag} {elts : List Expr} {kk : Nat} {tpos : Pos} (a e it : Addr) (hai : a ≠ it) (hae : a ≠ e) :
    Turn P w K (.Tuple elts kk tpos) (IteT K a) [e, it] e (fun i h => (∃ old, IsEnum h e it ((i : Nat) : Int) old) ∧ h.IsTupleIter it a i ∧ e ≠ it) where
  mem := by simp
  obj := fun i h st b hb => by
    obtain ⟨⟨old, he⟩, ⟨o, ho, hc, hd⟩, _⟩ := st
    have e' : b = e ∨ b = it := by simpa using hb
    rcases e' with z | z
    · rw [z]; exact ⟨_, he, fun v q => nomatch q⟩
    · rw [z]; exact ⟨o, ho, fun v q => by rw [hd] at q; cases q⟩
  keep := fun i h h' st k => let ⟨⟨old, he⟩, hi, hne⟩ := st; ⟨⟨old, k e (by simp) _ he⟩, hi.at fun o q => k it (by simp) o q, hne⟩
  item := by
    intro X hP hw hK hc i pins s σ H E I hf st hg
    subst hP hw hK
    obtain ⟨⟨old, he⟩, hit, hne⟩ := st
    obtain ⟨xs, x, hq, hx⟩ := hg
    obtain ⟨its, rv, p, hz⟩ := I.tuple hq
    obtain ⟨u, hu, ru⟩ := rv.get hx
    have hel : e < s.heap.objs.size := Heap.lt_size he
    have hil : it < s.heap.objs.size := by obtain ⟨_, q, _⟩ := hit; exact Heap.lt_size q
    have hiu : its.toArray[i]? = some u := by simpa using hu
    have dr : Draws X.prog X.w X.A.in1 it [it, a] its.toArray.size (fun i v => its.toArray[i]? = some v) (fun i h => h.IsTupleIter it a i ∧ h.IsTuple a its.toArray) := drawsT (show X.A.in1.handled = none from I.ok.hd hc) it a hai its.toArray
    have hea : e ∉ [it, a] := by simp [hne, Ne.symm hae]
    refine wpAny_pyNext_enum_itemD dr he ⟨hit, p⟩ (Array.getElem?_eq_some_iff.mp hiu).1 hne hea fun u' h' tk hu' ho hst hT hsz hk => ?_
    rw [hiu] at hu'; cases hu'
    refine ⟨_, rfl, wpAny_letOwnedTupleGo_enum (s := { s with heap := h', toks := tk + 1 }) ho fun h'' he' sb => ?_⟩
    have hT2 : h''.get? s.heap.objs.size = some { cls := .type "tuple", data := .seq #[.int i tk, u] } := (sb.2 _ (Nat.ne_of_gt hel)).trans hT
    have new : ObjOk X.prog X.w (upd H s.heap.objs.size (.tup [.int (i : Nat), x])) h'' s.heap.objs.size (.tup [.int (i : Nat), x]) :=
      ⟨by show 2 ≤ sizeLine; decide, [.int i tk, u], .cons ⟨_, rfl⟩ (.cons ru .nil), ⟨_, hT2, rfl, _, rfl⟩⟩
    have I1 : Inv X pins σ (upd H s.heap.objs.size (.tup [.int (i : Nat), x])) { s with heap := h'', toks := tk + 1 } :=
      I.turnedNew (ch := [e, it]) (fun b ob hb q => (sb.2 b (fun z => hb (by simp [z]))).trans (hk b ob (fun z => hb (by simp [z])) (fun z => hb (by simp [z])) q)) hf (Nat.le_refl _) new
    refine ⟨.ref s.heap.objs.size, _, I1, rfl, ⟨_, x, rfl, I.hok.fresh (Nat.le_refl _), rfl, fun ys hy => by rw [I.tuple_inj hy hq]; exact hx⟩, ⟨⟨u, ?_⟩, hst.1.at fun o q => (sb.2 it (Ne.symm hne)).trans q, hne⟩, fun b hb => ?_⟩
    · have e1 : ((i + 1 : Nat) : Int) = (i : Int) + 1 := by omega
      rw [e1]; exact he'
    · have hb' : b < s.heap.objs.size := by
        have e' : b = e ∨ b = it := by simpa using hb
        rcases e' with z | z
        · rw [z]; exact hel
        · rw [z]; exact hil
      rw [upd_ne (Nat.ne_of_lt hb')]
      exact (hf b hb).1
  done := by
    intro X hP hw hK hc i pins s σ H E I hf st hg
    subst hP hw hK
    obtain ⟨⟨old, he⟩, hit, hne⟩ := st
    obtain ⟨xs, hq, hx⟩ := hg
    obtain ⟨its, rv, p, hz⟩ := I.tuple hq
    obtain ⟨f0, f1, f2, f3, f4, f5⟩ := hf it (by simp)
    have hl := rv.length
    have dr : Draws X.prog X.w X.A.in1 it [it, a] i (fun _ _ => False) (fun j h => j = i ∧ h.IsTupleIter it a i ∧ h.IsTuple a its.toArray) :=
      { live := fun _ _ st => let ⟨o, ho, _⟩ := st.2.1; ⟨o, ho⟩
        frame := fun _ _ _ st hk => ⟨st.1, st.2.1.at fun o z => hk it (by simp) o z, let ⟨o, ho, r⟩ := st.2.2; ⟨o, hk a (by simp) o ho, r⟩⟩
        item := fun j s Q E hi st hQ => absurd st.1 (Nat.ne_of_lt hi)
        done := fun s Q E st hE => RZ.nextOf_tuple_end (show X.A.in1.handled = none from I.ok.hd hc) st.2.1 st.2.2 (by simp; omega) hE }
    exact wpAny_pyNext_enum_endD dr he ⟨rfl, hit, p⟩ fun h' eb => ⟨rfl, I.turned (t' := s.toks) (fun b o hb q => eb b o hb q) f0 f1 f3 f4 f5⟩
  self := fun A i s Q E st h => let ⟨⟨_, he⟩, _⟩ := st; wpAny_pyIter_enum he h
def iEnT (K : PySem.W.Frag) (ta : TA) : TI := fun σ H R => ta σ H fun vs H1 => ∃ a xs, vs = [.ref a] ∧ SqT K H1 a xs ∧ R (IteT K a) H1
theorem pi_enT {X : Cx} {e : Expr} {ta : TA} {p pos tpos : Pos} {elts : List Expr} {kk : Nat} (hg : Gl X "enumerate") (hm : X.mg "enumerate" = none) (ha : PA X [e] ta) (hs : starEach [e] X.env = [(false, eval e X.env)] := by rfl) :
    PI X (.Tuple elts kk tpos) (.Call (.Name "enumerate" p) [e] [] pos) (iEnT X.K ta) := by
  refine ⟨fun pins s σ H R I h => ?_⟩
  refine PyProof.Rows.Call_ (ld_blt I hg hm PyProof.Rows.boot_enumerate (PyProof.Rows.callWith_type1 (thn (ha.run pos pins s σ H _ I h) fun us s1 ⟨vs, H1, I1, r1, q1⟩ => ?_) hs rfl))
  obtain ⟨a, xs, ex, hq, q⟩ := q1
  subst ex
  cases r1 with
  | cons r rr =>
    cases rr
    cases r
    obtain ⟨its, rv, p', hz⟩ := I1.tuple hq
    have hal : a < s1.heap.objs.size := by obtain ⟨o, ho, _⟩ := p'; exact Heap.lt_size ho
    refine call_enT p' fun h' he hit hk => wpAny_pyIter_enum he ?_
    have I2 : Inv X pins σ H1 { s1 with heap := h' } := I1.kept (t' := s1.toks) hk
    refine ⟨s1.heap.objs.size + 1, [s1.heap.objs.size + 1, s1.heap.objs.size], _, _, H1, rfl, I2, turn_enT a (s1.heap.objs.size + 1) s1.heap.objs.size (Nat.ne_of_lt hal) (Nat.ne_of_lt (Nat.lt_succ_of_lt hal)), ⟨⟨.none, he⟩, hit, Nat.succ_ne_self _⟩, fun b hb => ?_, q⟩
    have e' : b = s1.heap.objs.size + 1 ∨ b = s1.heap.objs.size := by simpa using hb
    have hle : s1.heap.objs.size ≤ b := by
      rcases e' with z | z
      · rw [z]; exact Nat.le_add_right _ _
      · rw [z]; exact Nat.le_refl _
    exact I1.fpOk hle (I1.hok.fresh hle)
theorem walk_enT {K : PySem.W.Frag} {a : Addr} {xs : List V} : Walk (IteT K a) xs.length (fun H => SqT K H a xs) (YPair (fun i => some (.int (i : Nat))) (fun i => xs[i]?)) := by
  refine ⟨fun i _ hi q => ⟨xs, xs[i], q, by simp [hi]⟩, fun _ q => ⟨xs, q, Nat.le_refl _⟩, fun i H v H' _ q y => ?_⟩
  obtain ⟨T, x, h1, h2, h3, h4⟩ := y
  exact ⟨T, .int (i : Nat), x, h1, h2, h3, rfl, h4 xs q⟩
/-- each item with its number -/
def numd : Nat → List D → List D
  | _, [] => []
  | n, d :: ds => .tup [.int (n : Int), d] :: numd (n + 1) ds
theorem numd_len : ∀ (ds : List D) (n : Nat), (numd n ds).length = ds.length
  | [], _ => rfl
  | d :: ds, n => by rw [numd, List.length_cons, List.length_cons, numd_len ds (n + 1)]
theorem numd_get : ∀ (ds : List D) (n i : Nat) (d : D), ds[i]? = some d → (numd n ds)[i]? = some (.tup [.int ((n + i : Nat) : Int), d])
  | [], _, _, _, h => by simp at h
  | d :: ds, n, 0, e, h => by simp at h; subst h; simp [numd]
  | d :: ds, n, i + 1, e, h => by
    have := numd_get ds (n + 1) i e (by simpa using h)
    rw [numd, List.getElem?_cons_succ, this, show n + 1 + i = n + (i + 1) by omega]
section
variable {X : Cx} {c : Cf} {G : List Ow} {f : Rho → Res D} {e : Expr} {pos : Pos}
theorem YOk.num {S : Hp} {xs : List V} {ds : List D} (rr : RpA c.K c.cm S xs ds) : YOk c S (numd 0 ds) (YPair (fun i => some (.int (i : Nat))) (fun i => xs[i]?)) := by
  intro i S1 H1 x H2 hi e1 e2 y
  obtain ⟨T, a, b, rfl, h1, rfl, h2, h3⟩ := y
  cases h2
  obtain ⟨d, g1, g2⟩ := rr.getV h3
  refine ⟨upd S1 T (.tup [.int (i : Nat), b]), .tup [.int ((0 + i : Nat) : Int), d], Fwd.both e2 h1, numd_get ds 0 i d g1, ?_⟩
  rw [Nat.zero_add]
  have ex : Ex S1 (upd S1 T (.tup [.int (i : Nat), b])) := Ex.new (e2.nn h1)
  exact .tup upd_same (.cons (.int _) (.cons ((g2.mono e1).mono ex) .nil))
def itemsF (d : D) : Res (List D) := match d with
  | .lst ds => .ok ds
  | .fz ds => .ok ds
  | _ => .bad
def enumL (d : D) : Res (List D) := (itemsF d).bind fun ds => .ok (numd 0 ds)
def enumT (d : D) : Res (List D) := (itemsT d).bind fun ds => .ok (numd 0 ds)
/-- enumerate(tuple) -/
theorem di_enumT {p tpos : Pos} {elts : List Expr} {kk : Nat} (hm : X.mg "enumerate" = none) (hg : Gl X "enumerate") (he : PE X e (tV c G f)) (hK : c.K = X.K := by rfl) (hs : starEach [e] X.env = (false, eval e X.env) :: starEach [] X.env := by rfl) :
    PI X (.Tuple elts kk tpos) (.Call (.Name "enumerate" p) [e] [] pos) (iD c G (dIt enumT f)) :=
  pi_imp (pi_enT hg hm (pa_cons he pa_nil hs) hs) fun σ H R ⟨S0, H0, S, r, ok, p⟩ => rd_seq ok p fun d v S1 H1 w1 o1 m1 p1 => by
    rw [← hK]
    cases d with
    | tup ds =>
      cases m1 with
      | @tup q xs _ a1 a2 =>
        refine ⟨q, xs, rfl, .inl (.inl (o1.ex _ _ a1)), PostG.go p1 o1.ex _ ⟨_, _, ?_, fun S'' H'' e1 e2 _ => (show SqT c.K H'' q xs from .inl (.inl (e2 _ _ (e1 _ _ a1)))), YOk.num a2⟩⟩
        rw [numd_len, ← a2.length]
        exact walk_enT (K := c.K)
    | _ => exact p1.elim
end
end Dx
end S_DxV
section S_DxW
set_option Elab.async false
set_option linter.all false
set_option maxRecDepth 100000
set_option maxHeartbeats 2000000
namespace Dx
open PySem L2 PyProof.Rows
end Dx
end S_DxW
section S_DxX
set_option Elab.async false
set_option linter.all false
set_option maxRecDepth 100000
set_option maxHeartbeats 2000000
namespace Dx
open PySem L2
section
variable {X : Cx} {c : Cf} {L G G' : List Ow} {f f1 f2 : Rho → Res D} {a b e : Expr} {pos : Pos} {tg : Expr}
/-- sum of a list of ints -/
def allInt : List D → Option (List Int)
  | [] => some []
  | .int i :: ds => match allInt ds with
    | some is => some (i :: is)
    | none => none
  | _ => none
def sumD : D → Res D
  | .lst ds => match allInt ds with
    | some is => .ok (.int is.sum)
    | none => .bad
  | _ => .bad
theorem RpA.ints {S : Hp} : ∀ {vs : List V} {ds : List D} {is : List Int}, RpA c.K c.cm S vs ds → allInt ds = some is → vs = is.map V.int
  | _, [], _, h, q => by cases h; cases q; rfl
  | _, d :: ds, is, h, q => by
    cases h with
    | cons h1 h2 =>
      unfold allInt at q
      cases d with
      | int i =>
        dsimp only at q
        split at q
        · rename_i js hj
          cases q
          cases h1
          rw [RpA.ints h2 hj]; rfl
        · cases q
      | _ => cases q
theorem cs_sum : CallS c (mV c) (rSum c.K) [true] (g1 sumD) := by
  intro σ S H vs ds Q ex m p
  obtain ⟨v, d, rfl, rfl, h⟩ := m.one
  cases d with
  | lst ds =>
    obtain ⟨q, xs, rfl, a1, r1⟩ := h.list ex
    replace p : PostG c σ S H (match allInt ds with | some is => Res.ok (D.int is.sum) | none => .bad) (fun a S' H' => ∀ b, mV c H S' H' b a → Q b H') := p
    split at p
    · rename_i is hi
      refine ⟨q, is, rfl, .inl (.inl ?_), p.here ex (.int _)⟩
      rw [← r1.ints hi]; exact a1
    · exact p.elim
  | _ => exact p.elim
theorem RpA.dropLast {S : Hp} {vs : List V} {ds : List D} (h : RpA c.K c.cm S vs ds) : RpA c.K c.cm S vs.dropLast ds.dropLast := by
  rw [List.dropLast_eq_take, List.dropLast_eq_take, h.length]
  exact h.take _
end
end Dx
end S_DxX
section S_DxY
set_option Elab.async false
set_option linter.all false
set_option maxRecDepth 100000
set_option maxHeartbeats 2000000
namespace Dx
open PySem L2
section
variable {X : Cx} {CX : CXT} {k : Nat} {f C : Addr} {fd : FuncData} {ps : List Str} {sp : Sp} {E : St → XK} {x m : Str} {p pos apos : Pos} {e o : Expr} {es : List Expr} {ta : TE} {t : TA}
def tMethSD (C : Addr) (m : Str) (sp : Sp) (E : St → XK) (ta : TE) (t : TA) : TE := fun σ H Q => ta σ H fun x H1 => ∃ a dx fs, x = .ref a ∧ H1 a = some (.ins C dx fs) ∧ fs.lookup m = none ∧
  t σ H1 fun vs H2 => sp (x :: vs) H2 Q (E σ)
theorem pe_methSD {pl : Sem Bool} (he : PE X o ta) (c : Cls X.K C) (hm : Meth X.K C m f) (F : FnOk X.prog X.w X.K X.mg X.base CX k f fd ps sp) (hr : Room k X.A) (hb : L2.Binds X.K fd ps []) (hx : ∀ σ, PassesAt CX X σ (E σ)) (ha : PA X (e :: es) t)
    (hst : starEach (e :: es) X.env = (false, eval e X.env) :: starEach es X.env := by rfl) (hpl : (backTo pos (starEach es X.env)).any (·.1) = false := by rfl)
    (ht : eval (.Call (.Attribute o m apos) (e :: es) [] pos) X.env = (do
      let ov ← eval o X.env
      standAt apos.atName
      let (f, first) ← holding [ov] (getMethod ov m pl)
      callWith pos f first (backTo pos (starEach (e :: es) X.env)) (backToKw pos (keywordEach [] X.env))) := by rfl) :
    PE X (.Call (.Attribute o m apos) (e :: es) [] pos) (tMethSD C m sp E ta t) := by
  refine ⟨fun pins s σ H Q I h => ?_⟩
  refine PySem.W.methodCall_KW (pl := pl) (thn (he.run pins s σ H _ I h) fun u s1 ⟨x, H1, I1, rx, a, dx, fs, ex, ea, l, q⟩ => ?_) ht
  subst ex
  obtain rfl : u = Value.ref a := rx
  refine getmeth_ok I1 ea c hm l ?_
  refine PySem.W.callWith_K (first := [.ref a]) (h₀ := X.base) I.ok.mod.kin hm.kp (thn (ha.run pos pins s1 σ H1 _ I1 q) fun us s2 ⟨vs, H2, I2, r, q2⟩ => ⟨I2.kIn, ?_⟩) hst hpl
  exact run_fnSD (dvs := []) (us := .ref a :: us) (vs := .ref a :: vs) F hr hb .nil (hx σ) I2 (.cons rfl r) (by rw [List.append_nil]; exact q2)
def tMakeSD (C : Addr) (sp : Sp) (dvs : List V) (E : St → XK) (t : TA) : TE := fun σ H Q => t σ H fun vs H1 => ∀ x dx, H1 x = none → H1 dx = none → dx ≠ x →
  sp (.ref x :: (vs ++ dvs)) (upd (upd H1 dx (.own x)) x (.ins C dx [])) (fun v H2 => v = .non ∧ Q (.ref x) H2) (E σ)
variable {dvs : List V} {ds : List Value}
theorem run_makeSD {pins : List (Addr × Obj)} {σ : St} {H : Hp} {s : Shared} {Q : VK} {us : List Value} {vs : List V} (M : Mk X.K C f) (F : FnOk X.prog X.w X.K X.mg X.base CX k f fd ps sp) (hr : Room (k + 1) X.A) (hb : L2.Binds X.K fd ps ds) (hd : Vals dvs ds)
    (hx : PassesAt CX X σ (E σ)) (I : Inv X pins σ H s) (r : Vals vs us)
    (h : ∀ x dx, H x = none → H dx = none → dx ≠ x → sp (.ref x :: (vs ++ dvs)) (upd (upd H dx (.own x)) x (.ins C dx [])) (fun v H2 => v = .non ∧ Q (.ref x) H2) (E σ)) :
    wpAny (model X.prog X.w) X.A (call (.ref C) us) (EP X pins σ Q) X.xe s := by
  have hq := h (s.heap.objs.size + 1) s.heap.objs.size (I.hok.fresh (Nat.le_succ _)) (I.hok.fresh (Nat.le_refl _)) (Nat.ne_of_lt (Nat.lt_succ_self _))
  have I2 := Inv.made (C := C) I
  have r2 : Vals (V.ref (s.heap.objs.size + 1) :: (vs ++ dvs)) (Value.ref (s.heap.objs.size + 1) :: (us ++ ds)) := .cons rfl (r.append hd)
  have hl : (Value.ref (s.heap.objs.size + 1) :: us ++ ds).length = ps.length := by
    have e := r2.length
    rw [F.len _ _ _ _ hq] at e
    exact e.symm
  refine wpAny_call (make_map (f := f) I.kIn M.makes M.init (beq_iff_eq.mp M.fn) (codeAny_mono (F.run _ X.stack _ _ ⟨Value.ref (s.heap.objs.size + 1) :: us, []⟩ (Value.ref (s.heap.objs.size + 1) :: (us ++ ds)) _ _ (E σ) (hr.make C us [])
    (I2.env0.make C us []) (hb _ (Value.ref (s.heap.objs.size + 1) :: us) I2.kIn hl) r2 hq) fun r s' hq' => ?_))
  cases r with
  | error e => exact hx pins _ _ e s' I2 hq'
  | ok fl =>
    cases fl with
    | ret u =>
      obtain ⟨v, H', I3, rv, ev, q3⟩ := I2.after hq'
      subst ev
      exact ⟨rv, ⟨V.ref (s.heap.objs.size + 1), H', I3, rfl, q3⟩⟩
    | next => exact False.elim hq'
    | brk => exact False.elim hq'
    | cont => exact False.elim hq'
theorem pe_makeSD (M : Mk X.K C f) (F : FnOk X.prog X.w X.K X.mg X.base CX k f fd ps sp) (hr : Room (k + 1) X.A) (hg : Gl X x) (hm : X.mg x = some (.ref C)) (hb : L2.Binds X.K fd ps ds) (hd : Vals dvs ds) (hx : ∀ σ, PassesAt CX X σ (E σ))
    (ha : PA X (e :: es) t) (hdb : (x == ("__debug__" : Str)) = false := by decide) (he : starEach (e :: es) X.env = (false, eval e X.env) :: starEach es X.env := by rfl) (hpl : (backTo pos (starEach es X.env)).any (·.1) = false := by rfl) :
    PE X (.Call (.Name x p) (e :: es) [] pos) (tMakeSD C sp dvs E t) := by
  refine ⟨fun pins s σ H Q I h => ?_⟩
  refine wpAny_Call_Name_kw (ld_glob I hg hm ?_ hdb)
  refine PySem.W.callWith_K (h₀ := X.base) I.ok.mod.kin M.kp (thn (ha.run pos pins s σ H _ I h) fun us s1 ⟨vs, H1, I1, r, q⟩ => ⟨I1.kIn, ?_⟩) he hpl
  exact run_makeSD M F hr hb hd (hx σ) I1 r q
theorem pe_makeSD0 (M : Mk X.K C f) (F : FnOk X.prog X.w X.K X.mg X.base CX k f fd ps sp) (hr : Room (k + 1) X.A) (hg : Gl X x) (hm : X.mg x = some (.ref C)) (hb : L2.Binds X.K fd ps ds) (hd : Vals dvs ds) (hx : ∀ σ, PassesAt CX X σ (E σ))
    (hdb : (x == ("__debug__" : Str)) = false := by decide) : PE X (.Call (.Name x p) [] [] pos) (tMakeSD C sp dvs E tNil) := by
  refine ⟨fun pins s σ H Q I h => ?_⟩
  refine wpAny_Call_Name_kw (ld_glob I hg hm ?_ hdb)
  exact PySem.W.callWith_K0 I.kIn M.kp (run_makeSD (us := []) M F hr hb hd (hx σ) I .nil h)
end
section
variable {X : Cx} {c : Cf} {L G G' : List Ow} {f f1 : Rho → Res D} {e o : Expr} {es : List Expr} {pos apos p : Pos} {fs : Rho → Res (List D)}
/-- of an object of the class n, its field fl -/
def fldD (n fl : Str) : D → Res D
  | .obj c ns vs => if c = n then (match lookF ns vs fl with
    | some d => .ok d
    | none => .bad) else .bad
  | _ => .bad
theorem de_fld {n fl : Str} {C : Addr} (hcn : c.cm n = some C) (cl : Cls X.K C) (na : NoAttr X.K C fl) (he : PE X e (tR c G f)) (hb : attributeBase e fl X.env (eval e X.env) = eval e X.env := by rfl) :
    PE X (.Attribute e fl pos) (tV c G (dUn (fldD n fl) f)) := pe_imp (pe_fld he hb) fun σ H Q ⟨S0, H0, S, r, ok, p⟩ => rd_seq ok p fun d v S1 H1 w1 o1 m1 p1 => by
  cases d with
  | obj c' ns vs =>
    unfold fldD at p1
    dsimp only at p1
    split at p1
    · rename_i hc
      subst hc
      split at p1
      · rename_i d' hd
        obtain ⟨q, C', dx, fs, rfl, h1, h2, rfl, h4⟩ := RpB.obj m1 o1.ex
        rw [hcn] at h1; cases h1
        obtain ⟨v', hv, hr⟩ := look_rp h4 hd
        exact ⟨q, C, dx, fs, v', rfl, h2, cl, na, hv, p1.go o1.ex _ hr⟩
      · exact p1.elim
    · exact p1.elim
  | _ => exact p1.elim
/-- a constant of the class, by the class -/
theorem de_cval {C : Addr} {mc u : Value} {v : V} {d : D} {n fl : Str} (hg : Gl X n) (hm : X.mg n = some (.ref C)) (r : ClX.CRead X.K C mc) (kv : ClX.CVal X.K C mc fl v u) (hd : ∀ S, Rp c.K c.cm S v d)
    (hdb : (n == ("__debug__" : Str)) = false := by decide) (hb : attributeBase (.Name n p) fl X.env (eval (.Name n p) X.env) = eval (.Name n p) X.env := by rfl) : PE X (.Attribute (.Name n p) fl pos) (tV c G (dC d)) :=
  pe_imp (ClX.pe_cval (pe_glob (v := .ref C) hg hm rfl hdb) hb) fun σ H Q ⟨S0, H0, S, r', ok, p⟩ => ⟨C, mc, v, u, rfl, r, kv, p.here ok.ex (hd S)⟩
/-- the own object in slot i gets a field -/
def putN (fl : Str) (d : D) : List Str → List D → List Str × List D
  | n :: ns, v :: vs => if n = fl then (n :: ns, d :: vs) else let z := putN fl d ns vs; (n :: z.1, v :: z.2)
  | ns, vs => (ns ++ [fl], vs ++ [d])
theorem putN_rp {K : PySem.W.Frag} {cm : CM} {S : Hp} {fl : Str} {d : D} {v : V} (hv : Rp K cm S v d) : ∀ {fs : List (Str × V)} {vs : List D}, RpA K cm S (fs.map (·.2)) vs →
    (putN fl d (fs.map (·.1)) vs).1 = (putF fl v fs).map (·.1) ∧ RpA K cm S ((putF fl v fs).map (·.2)) (putN fl d (fs.map (·.1)) vs).2
  | [], vs, h => by
    cases h
    refine ⟨rfl, ?_⟩
    show RpA K cm S [v] [d]
    exact .one hv
  | (n, u) :: fs, _, h => by
    cases h with | @cons _ _ d' ds' h1 h2 =>
    obtain ⟨z1, z2⟩ := putN_rp hv h2
    by_cases hn : n = fl
    · subst hn
      have e1 : putF n v ((n, u) :: fs) = (n, v) :: fs := by unfold putF; simp
      have e2 : putN n d (((n, u) :: fs).map (·.1)) (d' :: ds') = (n :: fs.map (·.1), d :: ds') := by
        show putN n d (n :: fs.map (·.1)) (d' :: ds') = _
        unfold putN; simp
      rw [e1, e2]
      exact ⟨rfl, .cons hv h2⟩
    · have e1 : putF fl v ((n, u) :: fs) = (n, u) :: putF fl v fs := by
        conv => lhs; unfold putF
        simp [hn, Ne.symm hn]
      have e2 : putN fl d (((n, u) :: fs).map (·.1)) (d' :: ds') = (n :: (putN fl d (fs.map (·.1)) ds').1, d' :: (putN fl d (fs.map (·.1)) ds').2) := by
        show putN fl d (n :: fs.map (·.1)) (d' :: ds') = _
        conv => lhs; unfold putN
        simp [hn]
      rw [e1, e2]
      exact ⟨by simp [z1], .cons h1 z2⟩
def fstF (i : Nat) (n fl : Str) (f : Rho → Res D) : Rho → SR := fun r => liftS r (f r) fun d => match r[i]? with
  | some (some (.obj c ns vs)) => if c = n ∧ ns.length < 1000 then .nx (r.set i (some (.obj c (putN fl d ns vs).1 (putN fl d ns vs).2))) else .bad
  | _ => .bad
theorem ds_fst (i : Nat) {n fl x : Str} {C : Addr} {pn pos' : Pos} (hg : Gok c G) (hcn : c.cm n = some C) (cl : Cls X.K C) (na : NoAttr X.K C fl) (k : isO (kd G i)) (ho : PE X (.Name x pn) (tVar i)) (he : PE X e (tV c G f))
    (hs : swapsWith e (some (.Attribute (.Name x pn) fl pos')) pos.line X.env = pure false := by rfl) : PS X (.Assign [.Attribute (.Name x pn) fl pos'] e pos) (sD c L G G (fstF i n fl f)) :=
  ps_imp (ps_fld ho he hs) fun E σ H ⟨S0, H0, S, r, ok, p⟩ => st_seq hg ok p fun d v S1 H1 w1 o1 m1 p1 => by
    split at p1
    · rename_i c' ns vs hr
      split at p1
      · rename_i hc
        obtain ⟨rfl, hl⟩ := hc
        obtain ⟨q, ho', s1, s2, s3, s4, s5⟩ := o1.ownI k hr
        cases s5 with | @obj C' dx _ fs _ _ h1 h2 h3 =>
        rw [hcn] at h1; cases h1
        subst h2
        obtain ⟨z1, z2⟩ := putN_rp (fl := fl) m1 h3
        refine ⟨.ref q, s1, q, C, dx, fs, rfl, s2, cl, na, by simpa using hl, p1 σ S1 _ ?_⟩
        exact o1.mutI k hr s1 (.obj hcn z1 z2)
      · exact p1.elim
    · exact p1.elim
variable {k : Nat} {fa : Addr} {fd : FuncData} {ps : List Str} {ms : List Bool} {rm : Bool} {F : List D → Res D}
def isObj (n m : Str) : D → Res Unit
  | .obj c ns _ => if c = n ∧ m ∉ ns then .ok () else .bad
  | _ => .bad
def dMeth (n m : Str) (F : List D → Res D) (f1 : Rho → Res D) (fs : Rho → Res (List D)) : Rho → Res D := fun r => (f1 r).bind fun x => (isObj n m x).bind fun _ => (fs r).bind fun ds => F (x :: ds)
theorem lookup_none {fs : List (Str × V)} {m : Str} (h : m ∉ fs.map (·.1)) : fs.lookup m = none := by
  induction fs with
  | nil => rfl
  | cons a fs ih =>
    obtain ⟨n, v⟩ := a
    simp only [List.map_cons, List.mem_cons, not_or] at h
    rw [List.lookup_cons]
    have : (m == n) = false := by simpa using h.1
    rw [this]
    exact ih h.2
theorem of_isObj {σ : St} {S H : Hp} {n m : Str} {d : D} {v : V} {g : Unit → Res D} {kk : D → Hp → Hp → Prop} (ex : Ex S H) (hv : RpB c.K c.cm S H v d) (p : PostG c σ S H ((isObj n m d).bind g) kk) :
    ∃ a C dx fs, v = .ref a ∧ c.cm n = some C ∧ H a = some (.ins C dx fs) ∧ fs.lookup m = none ∧ PostG c σ S H (g ()) kk := by
  cases d with
  | obj c' ns vs =>
    unfold isObj at p
    dsimp only at p
    split at p
    · rename_i hc
      obtain ⟨rfl, hm⟩ := hc
      obtain ⟨q, C', dx, fs, rfl, h1, h2, rfl, h4⟩ := RpB.obj hv ex
      exact ⟨q, C', dx, fs, rfl, h1, h2, lookup_none hm, p⟩
    · exact p.elim
  | _ => exact p.elim
theorem de_meth {n m : Str} {C : Addr} {pl : Sem Bool} (hcn : c.cm n = some C) (cl : Cls X.K C) (hm : Meth X.K C m fa) (F1 : FnOk X.prog X.w X.K X.mg X.base (L2.CX X.prog X.w) k fa fd ps (spD c.K c.cm (true :: ms) rm F)) (tk : Takes X c.W) (hr : Room k X.A) (hb : L2.Binds X.K fd ps [])
    (he : PE X o (tR c G f1)) (ha : PA X (e :: es) (tM c G ms fs))
    (hst : starEach (e :: es) X.env = (false, eval e X.env) :: starEach es X.env := by rfl) (hpl : (backTo pos (starEach es X.env)).any (·.1) = false := by rfl)
    (ht : eval (.Call (.Attribute o m apos) (e :: es) [] pos) X.env = (do
      let ov ← eval o X.env
      standAt apos.atName
      let (f, first) ← holding [ov] (getMethod ov m pl)
      callWith pos f first (backTo pos (starEach (e :: es) X.env)) (backToKw pos (keywordEach [] X.env))) := by rfl) :
    PE X (.Call (.Attribute o m apos) (e :: es) [] pos) (rd c G (dMeth n m F f1 fs) (mR c rm)) :=
  pe_imp (pe_methSD (pl := pl) (E := fun σ cls d H => c.W cls d σ H) he cl hm F1 hr hb (fun σ => passAt tk σ) ha hst hpl ht) fun σ H Q ⟨S0, H0, S, r, ok, q⟩ => rd_seq ok q fun x v S1 H1 w1 o1 m1 p1 => by
    obtain ⟨a, C', dx, fs', rfl, z1, z2, z3, p2⟩ := of_isObj o1.ex m1 p1
    rw [hcn] at z1; cases z1
    exact ⟨a, dx, fs', rfl, z2, z3, rd_seq o1 p2 fun ds vs S2 H2 w2 o2 m2 p3 => call_rd (ds := x :: ds) (fun _ _ _ h => h) o2.ex ⟨RpB.mono m1 w2.s w2.h, m2⟩ (p3.anti (w1.h.trans w2.h))⟩
/-- what an __init__ promises: from its arguments' data to the new object's data -/
def spI (K : PySem.W.Frag) (cm : CM) (C : Addr) (ms : List Bool) (F : List D → Res D) : Sp := fun vs H Q E => ∃ x dx H1 S us ds, vs = .ref x :: us ∧ H1 x = none ∧ H1 dx = none ∧ dx ≠ x ∧ H = upd (upd H1 dx (.own x)) x (.ins C dx []) ∧ Ex S H1 ∧
  RpM ⟨K, cm, fun _ _ _ _ => False, none, true⟩ S H1 ms us ds ∧
  PostG ⟨K, cm, fun cls d _ H => E cls d H, none, true⟩ [] S H1 (F ds) fun a S' H' => (∃ ho, S' x = none ∧ H' x = some ho ∧ RpO K cm S' ho a) → Q .non H'
theorem make_rd {E : XK} {σ : St} {S H : Hp} {vs : List V} {ds : List D} {Q : VK} {C x dx : Addr} (hE : ∀ cls d H, c.W cls d σ H → E cls d H) (ex : Ex S H) (m : RpM c S H ms vs ds) (hx : H x = none) (hdx : H dx = none) (hne : dx ≠ x)
    (q : PostG c σ S H (F ds) fun a S' H' => ∀ b, mO c H S' H' b a → Q b H') : spI c.K c.cm C ms F (.ref x :: vs) (upd (upd H dx (.own x)) x (.ins C dx [])) (fun v H2 => v = .non ∧ Q (.ref x) H2) E := by
  refine ⟨x, dx, H, S, vs, ds, rfl, hx, hdx, hne, rfl, ex, RpM.cf (c := c) (c' := ⟨c.K, c.cm, fun _ _ _ _ => False, none, true⟩) rfl rfl m, ?_⟩
  cases hF : F ds with
  | ok a =>
    rw [hF] at q
    intro S' H' w ⟨ho, h1, h2, h3⟩
    exact ⟨rfl, q S' H' w _ ⟨x, ho, rfl, hx, h1, h2, h3⟩⟩
  | err n ns vs => rw [hF] at q; exact fun C dd S' H' fs h1 w h2 h3 h4 => hE _ _ _ (q C dd S' H' fs h1 w h2 h3 h4)
  | bad => rw [hF] at q; exact q.elim
theorem de_make {x : Str} {C : Addr} (M : Mk X.K C fa) (F1 : FnOk X.prog X.w X.K X.mg X.base (L2.CX X.prog X.w) k fa fd ps (spI c.K c.cm C ms F)) (tk : Takes X c.W) (hr : Room (k + 1) X.A) (hg : Gl X x) (hm : X.mg x = some (.ref C)) (hb : L2.Binds X.K fd ps [])
    (ha : PA X (e :: es) (tM c G ms fs)) (hdb : (x == ("__debug__" : Str)) = false := by decide) (he : starEach (e :: es) X.env = (false, eval e X.env) :: starEach es X.env := by rfl) (hpl : (backTo pos (starEach es X.env)).any (·.1) = false := by rfl) :
    PE X (.Call (.Name x p) (e :: es) [] pos) (tO c G (dCall F fs)) :=
  pe_imp (pe_makeSD (dvs := []) (E := fun σ cls d H => c.W cls d σ H) M F1 hr hg hm hb .nil (fun σ => passAt tk σ) ha hdb he hpl) fun σ H Q ⟨S0, H0, S, r, ok, q⟩ => rd_seq ok q fun ds vs S1 H1 w1 o1 m1 p1 => fun x dx hx hdx hne => by
    rw [List.append_nil]
    exact make_rd (fun _ _ _ h => h) o1.ex m1 hx hdx hne (p1.anti w1.h)
end
def startI (n : Nat) (cls : Str) (ds : List D) : Rho := some (.obj cls [] []) :: ds.map some ++ List.replicate (n - (ds.length + 1)) none
def GI (x : Addr) (ms : List Bool) (n : Nat) : List Ow := .i x :: ms.map (fun m => if m then .b else .v) ++ List.replicate (n - (ms.length + 1)) .v
def runI (n : Nat) (cls : Str) (Fb : Rho → SR) (ds : List D) : Res D := match Fb (startI n cls ds) with
  | .nx r => (match r[0]? with
    | some (some d) => .ok d
    | _ => .bad)
  | .er _ n ns vs => .err n ns vs
  | _ => .bad
theorem kd_GI_succ {x : Addr} {ms : List Bool} {n i : Nat} : kd (GI x ms n) (i + 1) = kd (G0 ms (n - 1)) i := by
  unfold kd GI G0
  rw [List.getD_eq_getElem?_getD, List.getD_eq_getElem?_getD]
  simp [Nat.sub_sub, Nat.add_comm]
theorem startI_succ {n i : Nat} {cls : Str} {ds : List D} : (startI n cls ds)[i + 1]? = (startR (n - 1) ds)[i]? := by
  unfold startI startR
  simp [Nat.sub_sub, Nat.add_comm]
section
variable {P : Program} {w : World} {K : PySem.W.Frag} {mg : Str → Option Value} {base : Heap} {cm : CM}
theorem env_startI {c : Cf} {N : List Str} {S H1 : Hp} {us : List V} {ds : List D} {ms : List Bool} {x dx C : Addr} {n : Str} (hcn : c.cm n = some C) (ex : Ex S H1) (m : RpM c S H1 ms us ds) (hn : ms.length + 1 ≤ N.length) (hx : H1 x = none) (hdx : H1 dx = none) (hne : dx ≠ x) :
    EnvOk c S H1 (GI x ms N.length) S (upd (upd H1 dx (.own x)) x (.ins C dx [])) (L2.start N (.ref x :: us)) (startI N.length n ds) := by
  have hl := m.len
  have hx1 : (upd H1 dx (.own x)) x = none := by rw [upd_ne (Ne.symm hne)]; exact hx
  have e1 : Ex H1 (upd (upd H1 dx (.own x)) x (.ins C dx [])) := (Ex.new hdx).trans (Ex.new hx1)
  have fw : Fwd S H1 S (upd (upd H1 dx (.own x)) x (.ins C dx [])) := ⟨Ex.refl, e1, ex.trans e1, fun a o h n => by rw [n] at h; cases h⟩
  refine ⟨fw, by unfold L2.start startI; simp [hl.1, hl.2], fun i d h => ?_, fun i j d e p hi hj ki kj si sj => ?_, ⟨[], .nil fun i d hi => ?_⟩⟩
  · cases i with
    | zero =>
      have h : some (some (D.obj n [] [])) = some (some d) := h
      cases h
      refine ⟨.ref x, by unfold L2.start; simp, ?_⟩
      show SlotOk c H1 S _ (.i x) (.ref x) _
      exact ⟨rfl, x, _, rfl, upd_same, ex.nn hx, hx, .obj hcn rfl .nil⟩
    | succ i =>
      rw [startI_succ] at h
      have hd := startR_some h
      obtain ⟨v, mm, h1, h2, h3⟩ := m.get hd
      refine ⟨v, ?_, ?_⟩
      · unfold L2.start
        have hlt : i < us.length := (List.getElem?_eq_some_iff.mp h1).1
        rw [List.getElem?_append, if_pos (by simpa using hlt)]
        simp [h1]
      · rw [kd_GI_succ, kd_G0_at h2]
        cases mm with
        | true => exact h3
        | false => exact h3
  · cases i with
    | succ i => rw [kd_GI_succ] at ki; exact absurd ki kd_G0
    | zero => cases j with
      | zero => rfl
      | succ j => rw [kd_GI_succ] at kj; exact absurd kj kd_G0
  · cases i with
    | zero => exact ⟨fun _ h => (by cases h), fun h => (by cases h)⟩
    | succ i => rw [kd_GI_succ]; exact kd_G0_sw
/-- THE RULE for an __init__ -/
theorem dokI {x qual : Str} {st : Stmt} {f C : Addr} {fd : FuncData} {N ps : List Str} {k : Nat} {ms : List Bool} {n : Str} {Fb : Rho → SR} (F : Fun K x qual st f fd) (S : FnScope N ps (defScope st)) (hcn : cm n = some C) (hm : ms.length + 1 = ps.length) (hn : ps.length ≤ N.length)
    {G' : Addr → List Ow} (hG : ∀ a, kd (G' a) 0 = .i a)
    (hb : ∀ (cdv : Value) (A : Around) (outer : List Env) (s : Shared) (H : Hp) (E : XK) (a : Addr), Room k (A.deeper (PyProof.Rows.envOfC qual (defScope st) s.heap.objs.size f cdv)) →
      PSs (cxOf (L2.CX P w) P w K mg base N qual (defScope st) f cdv A outer s H E) (defBody st) (sD (cfE K cm false E) [] (GI a ms N.length) (G' a) Fb)) :
    FnOk P w K mg base (L2.CX P w) (k + 1) f fd ps (spI K cm C ms (runI N.length n Fb)) := by
  refine F.okX S (fun vs H Q E h => ?_) (fun cdv A outer s H vs Q E hr h => ?_)
  · obtain ⟨x, dx, H1, S, us, ds, rfl, _, _, _, _, _, m, _⟩ := h
    rw [List.length_cons, m.len.1, hm]
  · obtain ⟨x, dx, H1, S, us, ds, rfl, hx, hdx, hne, rfl, ex, m, q⟩ := h
    refine ⟨_, hb cdv A outer s _ E x hr, S, H1, S, startI N.length n ds, env_startI (c := cfE K cm false E) hcn ex (RpM.cf (c := ⟨K, cm, fun _ _ _ _ => False, none, true⟩) (c' := cfE K cm false E) rfl rfl m) (by omega) hx hdx hne, ?_⟩
    unfold runI at q
    cases hF : Fb (startI N.length n ds) with
    | rt d => rw [hF] at q; exact q.elim
    | nx r =>
      rw [hF] at q
      dsimp only at q
      intro σ' S' H' ok
      split at q
      · rename_i d hd
        obtain ⟨v, h1, h2⟩ := ok.slot 0 d hd
        rw [hG x] at h2
        obtain ⟨rfl, p, ho, e1, e2, e3, e4, e5⟩ := h2
        cases e1
        exact q S' H' ok.fwd ⟨ho, e3, e2, e5⟩
      · exact q.elim
    | er r n ns vs =>
      rw [hF] at q
      exact fun C dd σ' S' H' fs h1 fw _ h2 h3 h4 => q C dd S' H' fs h1 fw h2 h3 h4
    | bk r => rw [hF] at q; exact q.elim
    | ct r => rw [hF] at q; exact q.elim
    | bad => rw [hF] at q; exact q.elim
end
end Dx
end S_DxY
section S_DxZ
set_option Elab.async false
set_option linter.all false
set_option maxRecDepth 100000
set_option maxHeartbeats 2000000
namespace Dx
open PySem L2
section
variable {X : Cx} {c : Cf} {L G G' : List Ow} {f f1 f2 : Rho → Res D} {e e2 : Expr} {pos apos p : Pos} {fs : Rho → Res (List D)}
def enumS (d : D) : Res (List D) := (itemsS d).bind fun ds => .ok (numd 0 ds)
def pairs : List D → List D → List D
  | a :: as, b :: bs => .tup [a, b] :: pairs as bs
  | _, _ => []
def zipS : List D → Res (List D)
  | [.str x, .str y] => .ok (pairs (signs x) (signs y))
  | _ => .bad
def repS (x : Str) (n : Int) : Str := ⟨(List.replicate n.toNat x.cps.toList).flatten.toArray⟩
def rMulS : R2 := fun x y H Q => ∃ i j, x = .str i ∧ y = .int j ∧ j < 2 ^ 60 ∧ -(2 ^ 60) < j ∧ i.length * j.toNat ≤ sizeLine ∧ Q (.str (repS i j)) H
theorem repS_fold (x : Str) (n : Nat) (a : Array Nat) : (List.replicate n x.cps).foldl (· ++ ·) a = a ++ (List.replicate n x.cps.toList).flatten.toArray := by
  induction n generalizing a with
  | zero => simp
  | succ n ih => rw [List.replicate_succ, List.foldl_cons, ih, List.replicate_succ, List.flatten_cons]; apply Array.toList_inj.mp; simp
theorem op_mulS : OpR X (binaryOp .Mult) rMulS := by
  intro pins s σ H x y v u Q I rx ry h
  obtain ⟨i, j, rfl, rfl, h1, h2, hz, q⟩ := h
  obtain ⟨t, rfl⟩ := rx
  obtain ⟨t', rfl⟩ := ry
  have hz2 : (sizeLine : Nat) < 2 ^ 40 := by decide
  refine P.mul_str (by have a1 : ¬ j < -(2 ^ 63 : Int) := by omega
                       have a2 : ¬ j ≥ 2 ^ 63 := by omega
                       rw [decide_eq_false a1, decide_eq_false a2]; rfl) (fun hn hc => ?_) (fun hn hc => ?_) ?_
  · intro hgt
    have hj : 0 < j := by omega
    have h3 : (i.length : Int) * j ≤ sizeLine := by
      have : ((i.length * j.toNat : Nat) : Int) ≤ (sizeLine : Int) := by exact_mod_cast hz
      rw [Int.natCast_mul, Int.toNat_of_nonneg (by omega)] at this
      exact this
    have h4 : (2 ^ 63 - 1) / j + 1 ≤ (i.length : Int) := hgt
    have h5 : ((2 ^ 63 - 1) / j + 1) * j ≤ (i.length : Int) * j := Int.mul_le_mul_of_nonneg_right h4 (by omega)
    have h6 : (2 ^ 63 - 1) < ((2 ^ 63 - 1) / j + 1) * j := Int.lt_ediv_add_one_mul_self _ hj
    have h7 : ((sizeLine : Nat) : Int) < 2 ^ 40 := by exact_mod_cast hz2
    omega
  · exact decide_eq_false (Nat.not_lt.mpr hz)
  · have e1 : repS i j = ⟨(List.replicate j.toNat i.cps).foldl (· ++ ·) #[]⟩ := by
      unfold repS
      rw [repS_fold]; simp
    by_cases hn : j < 1
    · rw [if_pos hn]
      have : repS i j = Str.empty := by
        unfold repS
        rw [show j.toNat = 0 by omega]
        rfl
      rw [this] at q
      exact ⟨by decide, ⟨.str Str.empty, H, I.tok _, ⟨_, rfl⟩, q⟩⟩
    · rw [if_neg hn]
      by_cases hc : (j == 1 || i.length == 0) = true
      · rw [if_pos hc]
        have : repS i j = i := by
          rw [Bool.or_eq_true] at hc
          rcases hc with hc | hc
          · have : j = 1 := by simpa using hc
            subst this
            unfold repS
            apply Str.ext'
            simp
          · have h0 : i.cps.size = 0 := by have : i.length = 0 := by simpa using hc
                                           exact this
            have h0' : i.cps = #[] := Array.eq_empty_of_size_eq_zero h0
            unfold repS
            apply Str.ext'
            rw [h0']
            simp
        rw [this] at q
        exact ⟨.str i, H, I, ⟨_, rfl⟩, q⟩
      · rw [if_neg hc, ← e1]
        refine ⟨?_, ⟨.str (repS i j), H, I.tok _, ⟨_, rfl⟩, q⟩⟩
        have : (repS i j).length = i.length * j.toNat := by
          show (List.replicate j.toNat i.cps.toList).flatten.toArray.size = _
          rw [List.size_toArray, List.length_flatten, List.map_replicate, List.sum_replicate_nat, Array.length_toList, Nat.mul_comm]; rfl
        rw [this]; exact hz
noncomputable def mulX : D → D → Res D
  | .str a, .int k => guard (k < 2 ^ 60 ∧ -(2 ^ 60) < k ∧ a.length * k.toNat ≤ sizeLine) (.ok (.str (repS a k)))
  | x, y => mulD x y
def rMulY : R2 := fun x y H Q => rMulX x y H Q ∨ rMulS x y H Q
theorem or_mulX : OpR X (binaryOp .Mult) rMulY := or_mul.or op_mulS
theorem os_mulX : OpS c (mV c) rMulY mulX := by
  intro σ S H x y d e Q ex hx hy p
  unfold mulX at p
  split at p
  · cases hx.str; cases hy.int
    obtain ⟨⟨h1, h2, h3⟩, p⟩ := p.gd
    exact .inr ⟨_, _, rfl, rfl, h1, h2, h3, p.here ex (.str _)⟩
  · exact .inl (os_mul σ S H x y _ _ Q ex hx hy p)
variable {cpos : Pos}
end
end Dx
end S_DxZ
section S_DxO
set_option Elab.async false
set_option linter.all false
set_option maxRecDepth 100000
set_option maxHeartbeats 2000000
namespace Dx
open PySem L2 ItX
open PyProof.Rows hiding St
section
variable {X : Cx} {k : Nat} {fa C : Addr} {fd : FuncData} {ps : List Str} {sp : Sp} {pins : List (Addr × Obj)} {σ : St} {H : Hp} {s : Shared} {Q : VK} {us : List Value} {vs : List V}
abbrev noX : XK := fun _ _ _ => False
/-- a def runs below, and raises nothing -/
theorem run_ce {A : Around} {R : Value → Shared → Prop} {E' : Value → Shared → Prop} (F1 : FnOk X.prog X.w X.K X.mg X.base (L2.CX X.prog X.w) k fa fd ps sp) (hr : Room k A) (e0 : Env0 X.prog X.w X.K X.mg X.base A X.stack s H) (hb : L2.Binds X.K fd ps []) (hK : X.K.In s.heap) (r : Vals vs us) (h : sp vs H Q noX)
    (fin : ∀ u s', CE X.stack X.prog X.w H s Q u s' → R u s') : wpAny (model X.prog X.w) A (call (.ref fa) us) R E' s := by
  have hl : (us ++ []).length = ps.length := by rw [List.append_nil, ← r.length]; exact F1.len _ _ _ _ h
  have hb2 := hb s us hK hl
  rw [List.append_nil] at hb2
  refine wpAny_call (codeAny_mono (F1.run A X.stack s H ⟨us, []⟩ us vs Q noX hr e0 hb2 r h) fun r s' hq => ?_)
  cases r with
  | error e => exact (cx_never hq).elim
  | ok fl =>
    cases fl with
    | ret u => exact fin u s' hq
    | next => exact False.elim hq
    | brk => exact False.elim hq
    | cont => exact False.elim hq
theorem run_calm {A : Around} {E' : Value → Shared → Prop} (F1 : FnOk X.prog X.w X.K X.mg X.base (L2.CX X.prog X.w) k fa fd ps sp) (hr : Room k A) (e0 : Env0 X.prog X.w X.K X.mg X.base A X.stack s H) (hb : L2.Binds X.K fd ps []) (I : Inv X pins σ H s) (r : Vals vs us) (h : sp vs H Q noX) :
    wpAny (model X.prog X.w) A (call (.ref fa) us) (EP X pins σ Q) E' s := run_ce F1 hr e0 hb I.kIn r h fun u s' hq => I.after hq
theorem ins_at {a dx : Addr} {fs : List (Str × V)} (I : Inv X pins σ H s) (h : H a = some (.ins C dx fs)) : ∃ ox od, PySem.W.InstAt s.heap a ox C od ∧ ox.data = .plain := by
  obtain ⟨mA, O, _⟩ := ins_get I.hok h
  obtain ⟨od, J, _⟩ := O.look
  exact ⟨_, _, J, rfl⟩
def rLenO (C : Addr) (sp : Sp) : List V → Hp → VK → Prop := fun xs H Q => ∃ a dx fs, xs = [V.ref a] ∧ H a = some (.ins C dx fs) ∧ sp [.ref a] H (fun z H' => ∃ i : Int, z = .int i ∧ 0 ≤ i ∧ i < 2 ^ 63 ∧ Q z H') noX
theorem call_lenO (hm : L2.Meth X.K C "__len__" fa) (F1 : FnOk X.prog X.w X.K X.mg X.base (L2.CX X.prog X.w) k fa fd ps sp) (hr : Room (k + 1) X.A) (hb : L2.Binds X.K fd ps []) : CallR X (.builtin "len") (rLenO C sp) := by
  intro pins s σ H xs us Q I r h
  obtain ⟨a, dx, fs, rfl, ha, q⟩ := h
  obtain ⟨u, rfl, ru⟩ := r.one
  cases ru
  obtain ⟨ox, od, J, _⟩ := ins_at I ha
  obtain ⟨m, hF⟩ := I.fr
  refine PySem.W.len_K hF I.ok.mod.kin J hm.at_ hm.fn (wpAny_mono (run_calm (us := [.ref a]) (vs := [.ref a]) F1 hr.in1 I.env0.in1 hb I (.cons rfl .nil) q) (fun w s' z => ?_) fun _ _ x => x)
  obtain ⟨z', H', I', rz, i, rfl, h0, h1, qz⟩ := z
  obtain ⟨t, rfl⟩ := rz
  exact ⟨⟨h0, h1⟩, .int i, H', I'.tok _, ⟨_, rfl⟩, qz⟩
end
section
variable {X : Cx} {c : Cf} {L G G' : List Ow} {f f1 : Rho → Res D} {e o : Expr} {es : List Expr} {pos apos p : Pos} {fs : Rho → Res (List D)} {n : Str} {C : Addr} {F : List D → Res D} {ms : List Bool} {rm : Bool} {k : Nat} {fa : Addr} {fd : FuncData} {ps : List Str}
theorem calm_sp {S H : Hp} {vs : List V} {ds : List D} {Q : VK} {a : D} (ex : Ex S H) (m : RpM c S H ms vs ds) (hF : F ds = .ok a) (q : ∀ S' H' b, Fwd S H S' H' → mR c rm H S' H' b a → Q b H') : spD c.K c.cm ms rm F vs H Q noX := by
  refine call_rd (c := ⟨c.K, c.cm, fun _ _ _ _ => False, none, rm⟩) (σ := []) (fun _ _ _ h => h) ex (RpM.cf (c := c) (c' := ⟨c.K, c.cm, fun _ _ _ _ => False, none, rm⟩) rfl rfl m) ?_
  rw [hF]
  exact fun S' H' w b hb => q S' H' b w (by cases rm <;> exact hb)
/-- an object of the class n -/
def isCls (n : Str) : D → Bool
  | .obj c _ _ => decide (c = n)
  | _ => false
theorem of_isCls {S H : Hp} {v : V} {d : D} (ex : Ex S H) (hcn : c.cm n = some C) (h : isCls n d = true) (m : RpB c.K c.cm S H v d) : ∃ a dx fs, v = .ref a ∧ H a = some (.ins C dx fs) := by
  cases d with
  | obj c' ns vs =>
    have hc : c' = n := of_decide_eq_true h
    subst hc
    obtain ⟨q, C', dx, fs, rfl, h1, h2, _, _⟩ := RpB.obj m ex
    rw [hcn] at h1; cases h1
    exact ⟨q, dx, fs, rfl, h2⟩
  | _ => cases h
noncomputable def lenO (n : Str) (F : List D → Res D) (d : D) : Res D := if isCls n d = true then (match F [d] with
  | .ok (.int i) => guard (0 ≤ i ∧ i < 2 ^ 63) (.ok (.int i))
  | _ => .bad) else .bad
theorem cs_lenO (hcn : c.cm n = some C) : CallS c (mV c) (rLenO C (spD c.K c.cm [true] false F)) [true] (g1 (lenO n F)) := by
  intro σ S H vs ds Q ex m p
  obtain ⟨v, d, rfl, rfl, h⟩ := m.one
  have p : PostG c σ S H (lenO n F d) _ := p
  unfold lenO at p
  split at p
  · rename_i hc
    obtain ⟨a, dx, gs, rfl, h2⟩ := of_isCls ex hcn hc h
    split at p
    · rename_i i hF
      obtain ⟨⟨h0, h1⟩, p⟩ := p.gd
      exact ⟨a, dx, gs, rfl, h2, calm_sp (ds := [d]) ex ⟨h, trivial⟩ hF fun S' H' b w hb => by
        have hb : Rp c.K c.cm S' b (.int i) := hb
        cases hb
        exact ⟨i, rfl, h0, h1, p S' H' w _ (.int i)⟩⟩
    · exact p.elim
  · exact p.elim
def dStar (f : Rho → Res D) (fs : Rho → Res (List D)) : Rho → Res (List D) := fun r => (f r).bind fun d => (items d).bind fun xs => (fs r).bind fun ys => .ok (xs ++ ys)
def zipL : List D → Res (List D)
  | [.lst x, .lst y] => .ok (pairs x y)
  | _ => .bad
end
/-- what such an __iter__ gives: a new iterator of the list -/
def ItOk (P : Program) (w : World) (K : PySem.W.Frag) (mg : Str → Option Value) (base : Heap) (k : Nat) (f : Addr) (C : Addr) (fl : Str) : Prop :=
  ∀ (A : Around) (outer : List Env) (s : Shared) (H : Hp) (a dx l : Addr) (fs : List (Str × V)) (xs : List V) (Q : VK), Room k A → Env0 P w K mg base A outer s H → H a = some (.ins C dx fs) → fs.lookup fl = some (.ref l) → SqL K H l xs →
    (∀ it, H it = none → s.heap.objs.size ≤ it → Q (.ref it) (upd H it (ItO l it 0))) → codeAny (model P w) A (.call (.ref f) ⟨[.ref a], []⟩) (CR (L2.CX P w) outer P w H s Q noX) s
theorem iter_ok {P : Program} {w : World} {K : PySem.W.Frag} {mg : Str → Option Value} {base : Heap} {qual : Str} {st : Stmt} {fI C : Addr} {fd : FuncData} {N ps : List Str} {fl : Str} (F : Fun K "__iter__" qual st fI fd) (S : FnScope N ps (defScope st)) (hl : ps.length = 1) (hN : N.length = 1) (cl : Cls K C) (na : NoAttr K C fl) (bi : L2.Binds K fd ps [])
    (hb : ∀ (cdv : Value) (A : Around) (outer : List Env) (s : Shared) (H : Hp) (E : XK), PSs (cxOf (L2.CX P w) P w K mg base N qual (defScope st) fI cdv A outer s H E) (defBody st) (tRet (tCB (ItX.rIterN K s.heap.objs.size) (tCons (tFld K (tVar 0) fl) tNil)))) :
    ItOk P w K mg base 1 fI C fl := by
  intro A outer s H a dx l fs xs Q hr e0 ha hf hq q
  obtain ⟨oc, od, kV, doc, pm, an, cd, ct, osl, rfl, lk, hcd⟩ := F.ex
  have inK : K.In s.heap := e0.mod.kin.keeps fun z o e => (e0.bs z o e).1
  have nl : s.heap.NoLimit := e0.mod.nolimit.keeps fun z o e => (e0.bs z o e).1
  have bnd := bi s [Value.ref a] inK (by rw [List.append_nil]; exact hl.symm)
  rw [List.append_nil] at bnd
  have kinds : ∀ y ∈ ps.zip [Value.ref a], (defScope st).names.lookup y.1 = some .local ∨ ((defScope st).names.lookup y.1 = some .cell ∧ ((cellsFrom (s.heap.objs.size + 1) (defScope st).names []).lookup y.1).isSome = true) := by
    rintro ⟨n, v⟩ hy
    rcases S.par n (List.of_mem_zip hy).1 with z | z
    · exact .inl z
    · exact .inr ⟨z, PySem.W.cellsFrom_some _ _ _ (.inl z)⟩
  refine codeAny_call_function hr.depth (inK _ _ lk) rfl S.co S.gen rfl (PySem.W.codeRec_of inK hcd) (bnd _ _ _ _ (wpAny_newFunctionEnv_cells S.kind kinds fun env he s1 ic => ?_))
  subst he
  refine ⟨nl.keeps ic.toInCall.keep, codeAny_func ?_⟩
  have J0 : Inv (cxOf (L2.CX P w) P w K mg base N qual (defScope st) fI cd A outer s H noX) [] (L2.start N [V.ref a]) H s1 := inv_start S hr.hd e0 hl.symm (.cons rfl .nil) ic
  have es : L2.start N [V.ref a] = [some (.ref a)] := by unfold L2.start; rw [hN]; rfl
  have goal : tRet (tCB (ItX.rIterN K s.heap.objs.size) (tCons (tFld K (tVar 0) fl) tNil)) { nx := fun _ H' => Q .non H', rt := Q } (L2.start N [V.ref a]) H := by
    rw [es]
    exact ⟨.ref a, rfl, a, C, dx, fs, .ref l, rfl, ha, cl, na, hf, l, xs, rfl, hq, q⟩
  refine wpAny_mono ((hb cd A outer s H noX).run [] s1 _ H _ J0 goal) (fun fl s' z => ?_) fun e s' z => z
  cases fl with
  | ret u =>
    obtain ⟨v, σ', H', J, rv, z⟩ := z
    exact ⟨v, H', J.os, J.bare, J.base, J.hok, rv, z⟩
  | next =>
    obtain ⟨σ', H', J, z⟩ := z
    exact ⟨V.non, H', J.os, J.bare, J.base, J.hok, rfl, z⟩
  | brk => obtain ⟨_, _, _, z⟩ := z; exact z.elim
  | cont => obtain ⟨_, _, _, z⟩ := z; exact z.elim
section
variable {X : Cx} {k : Nat} {fa C : Addr} {pins : List (Addr × Obj)} {σ : St} {H : Hp} {s : Shared} {fl : Str}
/-- the call of __iter__: a new iterator of the list -/
theorem run_it {A : Around} {E' : Value → Shared → Prop} {a dx l : Addr} {fs : List (Str × V)} {xs : List V} (F1 : ItOk X.prog X.w X.K X.mg X.base k fa C fl) (hr : Room k A) (e0 : Env0 X.prog X.w X.K X.mg X.base A X.stack s H) (I : Inv X pins σ H s)
    (ha : H a = some (.ins C dx fs)) (hf : fs.lookup fl = some (.ref l)) (hq : SqL X.K H l xs) :
    wpAny (model X.prog X.w) A (call (.ref fa) [.ref a]) (fun u s' => ∃ it, u = .ref it ∧ s.heap.objs.size ≤ it ∧ H it = none ∧ Inv X pins σ (upd H it (ItO l it 0)) s') E' s := by
  refine wpAny_call (codeAny_mono (F1 A X.stack s H a dx l fs xs (fun v H' => ∃ it, v = .ref it ∧ H it = none ∧ s.heap.objs.size ≤ it ∧ H' = upd H it (ItO l it 0)) hr e0 ha hf hq fun it hit hs => ⟨it, rfl, hit, hs, rfl⟩) fun r s' hr => ?_)
  cases r with
  | error e => exact (cx_never hr).elim
  | ok fl =>
    cases fl with
    | ret u =>
      obtain ⟨v2, H2, I2, r2, it, rfl, h2, h3, rfl⟩ := I.after hr
      cases r2
      exact ⟨it, rfl, h3, h2, I2⟩
    | next => exact False.elim hr
    | brk => exact False.elim hr
    | cont => exact False.elim hr
theorem it_next {A : Around} {Q : Value → Shared → Prop} {E : Value → Shared → Prop} {l it : Addr} (I : Inv X pins σ H s) (h : H it = some (ItO l it 0)) (q : Q (.ref it) s) : PySem.W.OwitIt (model X.prog X.w) A Q E (.ref it) s := by
  have eo := itO_get I h
  unfold PySem.W.OwitIt
  exact wpAny_specialOf (T := "list_iterator") ⟨_, eo, rfl⟩ slot_listiter_next.lookup q
end
end Dx
end S_DxO
section S_DxP
set_option Elab.async false
set_option linter.all false
set_option maxRecDepth 100000
set_option maxHeartbeats 2000000
namespace Dx
open PySem L2 ItX
open PyProof.Rows hiding St
/-- a length, also of a dict with tuple keys -/
def LenX (K : PySem.W.Frag) (v : V) (H : Hp) (n : Nat) : Prop := LenV K v H n ∨ ∃ p kvs, v = .ref p ∧ Rd H p (.dT kvs) ∧ n = kvs.length
def rLenX (K : PySem.W.Frag) : List V → Hp → VK → Prop := fun xs H Q => ∃ x n, xs = [x] ∧ LenX K x H n ∧ Q (.int (n : Int)) H
theorem call_lenX {X : Cx} : CallR X (.builtin "len") (rLenX X.K) := by
  intro pins s σ H xs us Q I r h
  obtain ⟨x, n, rfl, h | ⟨p, kvs, rfl, hq, rfl⟩, q⟩ := h
  · exact call_len pins s σ H [x] us Q I r ⟨x, n, rfl, h, q⟩
  · obtain ⟨u, rfl, ru⟩ := r.one
    cases ru
    obtain ⟨z, hd, ys, rel, dd⟩ := dt_rd I.hok hq
    have hl : kvs.length = ys.length := Paired.length rel
    refine call_len_dictH hd dd (by rw [← hl]; rw [sizeLine_eq] at z; omega) ?_
    rw [← hl]
    exact ⟨.int ((kvs.length : Nat) : Int), H, I.tok _, ⟨_, rfl⟩, q⟩
/-- a length that leaves all as it is: return len(self.f) -/
def spLn (K : PySem.W.Frag) (C : Addr) (fl : Str) : Sp := fun vs H Q _ => ∃ a dx fs v n, vs = [.ref a] ∧ H a = some (.ins C dx fs) ∧ fs.lookup fl = some v ∧ LenX K v H n ∧ Q (.int (n : Int)) H
theorem len_ok {P : Program} {w : World} {K : PySem.W.Frag} {mg : Str → Option Value} {base : Heap} {qual : Str} {st : Stmt} {fI C : Addr} {fd : FuncData} {N ps : List Str} {fl : Str} (F : Fun K "__len__" qual st fI fd) (S : FnScope N ps (defScope st)) (hl : ps.length = 1) (hN : N.length = 1) (cl : Cls K C) (na : NoAttr K C fl)
    (hb : ∀ (cdv : Value) (A : Around) (outer : List Env) (s : Shared) (H : Hp) (E : XK), PSs (cxOf (L2.CX P w) P w K mg base N qual (defScope st) fI cdv A outer s H E) (defBody st) (tRet (tCB (rLenX K) (tCons (tFld K (tVar 0) fl) tNil)))) :
    FnOk P w K mg base (L2.CX P w) 1 fI fd ps (spLn K C fl) := by
  refine F.okX (k := 0) S (fun vs H Q E h => ?_) (fun cdv A outer s H vs Q E hr h => ?_)
  · obtain ⟨a, dx, fs, v, n, rfl, _⟩ := h; exact hl.symm
  · obtain ⟨a, dx, fs, v, n, rfl, ha, hf, hq, q⟩ := h
    refine ⟨_, hb cdv A outer s H E, ?_⟩
    have e : L2.start N [.ref a] = [some (.ref a)] := by unfold L2.start; rw [hN]; rfl
    rw [e]
    exact ⟨.ref a, rfl, a, C, dx, fs, v, rfl, ha, cl, na, hf, v, n, rfl, hq, q⟩
section
variable {X : Cx} {k : Nat} {fi fn C : Addr} {fd : FuncData} {ps : List Str} {pins : List (Addr × Obj)} {σ : St} {H : Hp} {s : Shared} {fl gl : Str} {A1 : Around}
theorem lenV_put {K : PySem.W.Frag} {v : V} {n : Nat} {q : Addr} {u : HO} (h : LenV K v H n) (hq : H q = none) : LenV K v (upd H q u) n := by
  cases v with
  | ref p =>
    rcases h with ⟨xs, h1, h2⟩ | ⟨xs, h1, h2⟩
    · exact .inl ⟨xs, (Ex.new hq).l h1, h2⟩
    · exact .inr ⟨xs, (Ex.new hq).t h1, h2⟩
  | str y => exact h
  | byt y => exact h
  | _ => exact h.elim
theorem lenX_put {K : PySem.W.Frag} {v : V} {n : Nat} {q : Addr} {u : HO} (h : LenX K v H n) (hq : H q = none) : LenX K v (upd H q u) n := by
  rcases h with h | ⟨p, kvs, rfl, h, rfl⟩
  · exact .inl (lenV_put h hq)
  · refine .inr ⟨p, kvs, rfl, ?_, rfl⟩
    rcases h with h | ⟨o, h⟩
    · exact .inl ((Ex.new hq) _ _ h)
    · exact .inr ⟨o, (Ex.new hq) _ _ h⟩
/-- the walk of a list's iterator that fills the list at q -/
theorem ext_loop {Rs : Result → Shared → Prop} {q it l : Addr} {xs : List V} (hh : A1.in1.handled = none) (hq : H q = none) (hs : SqL X.K H l xs) (hz : xs.length ≤ sizeLine) (hdone : ∀ s, Inv X pins σ (upd H q (.lst xs)) s → Rs (.ok (.ret .none)) s) :
    ∀ (m i : Nat) (s : Shared), i + m = xs.length → Inv X pins σ (upd H q (.lst (xs.take i))) s → FpOk X pins (upd H q (.lst (xs.take i))) it → s.heap.IsListIter it l i →
      codeAny (model X.prog X.w) A1 (.builtin "list.extend.loop" ⟨[.ref q, .ref it, .none], []⟩) Rs s := by
  intro m
  induction m with
  | zero =>
    intro i s hi I hf st
    refine codeAny_builtin PySem.F.entry_extend_loop ?_
    rw [Around.under_plainId PySem.F.plain_extend_loop _]
    show wpAny _ A1.in1 (pyNext (.ref it) >>= _) _ _ s
    obtain ⟨its, rv, p, _⟩ := I.list ((Ex.new hq).l hs)
    have hl := rv.length
    obtain ⟨f0, f1, f2, f3, f4, f5⟩ := hf
    refine wpAny_bind (wpAny_pyNext_list_end hh st p.isList (by simp; omega) fun h' eb => wpAny_pure (hdone _ ?_))
    have e : xs.take i = xs := List.take_of_length_le (by omega)
    rw [e] at I f0
    exact I.turned (t' := s.toks) (fun b o hb e => eb b o hb e) f0 f1 f3 f4 f5
  | succ m ih =>
    intro i s hi I hf st
    refine codeAny_builtin PySem.F.entry_extend_loop ?_
    rw [Around.under_plainId PySem.F.plain_extend_loop _]
    show wpAny _ A1.in1 (pyNext (.ref it) >>= _) _ _ s
    obtain ⟨its, rv, p, _⟩ := I.list ((Ex.new hq).l hs)
    have hil : i < xs.length := by omega
    obtain ⟨u, hu, ru⟩ := rv.get (List.getElem?_eq_getElem hil)
    have hf' := hf
    obtain ⟨f0, f1, f2, f3, f4, f5⟩ := hf
    refine wpAny_bind (wpAny_pyNext_list_item st p.isList (x := u) (by simpa using hu) fun h' st' sb => ?_)
    have I1 : Inv X pins σ (upd H q (.lst (xs.take i))) { s with heap := h' } := I.turned (t' := s.toks) (fun b o hb e => (sb.2 b hb).trans e) f0 f1 f3 f4 f5
    show wpAny _ A1.in1 (updateSeq q (·.push u) >>= _) _ _ _
    obtain ⟨z, its2, n2, r2, hl2, e2⟩ := I1.lstM upd_same
    have hlt : (xs.take i).length = i := by rw [List.length_take]; omega
    refine wpAny_bind (wpAny_updateSeq e2 rfl (wpAny_pure ⟨plainId_quiet PySem.F.plain_extend_loop _, ?_⟩) (by rw [List.size_toArray]; omega) (by show (its2.toArray.push u).size ≤ sizeLine + 1; rw [Array.size_push, List.size_toArray]; omega))
    have I2 := I1.lset (f := (·.push u)) (its' := its2 ++ [u]) (ys := xs.take i ++ [xs[i]]) (t' := s.toks) upd_same e2 (by simp) (r2.append (.cons ru .nil)) (by rw [List.length_append, List.length_singleton]; omega)
    rw [upd_upd] at I2
    have et : xs.take i ++ [xs[i]] = xs.take (i + 1) := by rw [List.take_add_one, List.getElem?_eq_getElem hil]; rfl
    rw [et] at I2
    have hne : it ≠ q := fun z => by rw [z, upd_same] at f0; cases f0
    refine ih (i + 1) _ (by omega) I2 ⟨by rw [upd_ne hne] at f0 ⊢; exact f0, f1, f2, f3, f4, f5⟩ ?_
    obtain ⟨o, eo, co, do_⟩ := st'
    exact ⟨o, by rw [PySem.Heap.get?_update_ne _ _ _ _ hne]; exact eo, co, do_⟩
/-- what list(o) asks of the length -/
theorem len_hint {A : Around} {E : Value → Shared → Prop} {Q : Bool → Shared → Prop} {a dx : Addr} {fs : List (Str × V)} {v : V} {n : Nat} (hm : L2.Meth X.K C "__len__" fn) (F1 : FnOk X.prog X.w X.K X.mg X.base (L2.CX X.prog X.w) k fn fd ps (spLn X.K C gl)) (hb : L2.Binds X.K fd ps []) (hr : Room (k + 1) A) (e0 : Env0 X.prog X.w X.K X.mg X.base A X.stack s H)
    (I : Inv X pins σ H s) (ha : H a = some (.ins C dx fs)) (hf : fs.lookup gl = some v) (hv : LenX X.K v H n) (hn : n ≤ sizeLine) (q : ∀ b s', Inv X pins σ H s' → Q b s') :
    wpAny (model X.prog X.w) A (Builtin.List.listLengthHint (.ref a)) Q E s := by
  obtain ⟨ox, od, J, _⟩ := ins_at I ha
  obtain ⟨m, hF⟩ := I.fr
  have h63 : (n : Int) < 2 ^ 63 := by have := sizeLine_eq; omega
  unfold Builtin.List.listLengthHint
  refine wpAny_bind (wpAny_bind (J.type.here ((PySem.W.looks_findIn I.kIn hm.at_).here ?_)))
  refine PySem.W.KFB.if_not rfl ?_
  refine PySem.W.KFB.if_so rfl ?_
  refine wpAny_bind (wpAny_rule ?_)
  refine wpAny_bind (wpAny_attempt (PySem.W.len_K hF I.ok.mod.kin J hm.at_ hm.fn (wpAny_mono (run_calm (us := [.ref a]) (vs := [.ref a]) (Q := fun z H' => z = .int (n : Int) ∧ H' = H) (E' := fun _ _ => False) F1 hr.in1 e0.in1 hb I (.cons rfl .nil) ⟨a, dx, fs, v, n, rfl, ha, hf, hv, rfl, rfl⟩) (fun w s' z => ?_) fun _ _ z => z.elim)))
  obtain ⟨z', H', I', rz, rfl, rfl⟩ := z
  obtain ⟨t, rfl⟩ := rz
  refine ⟨⟨by omega, h63⟩, ?_⟩
  refine wpAny_bind (wpAny_pure ?_)
  refine PySem.W.KFB.if_not (by rw [Int.toNat_natCast]; exact notLongL hn) ?_
  exact wpAny_pure (q _ _ (I'.tok _))
/-- list(o) -/
def rListO (K : PySem.W.Frag) (C : Addr) (fl gl : Str) : List V → Hp → VK → Prop := fun xs H Q => ∃ a dx fs l zs v n, xs = [.ref a] ∧ H a = some (.ins C dx fs) ∧ fs.lookup fl = some (.ref l) ∧ SqL K H l zs ∧ zs.length ≤ sizeLine ∧ fs.lookup gl = some v ∧ LenX K v H n ∧ n ≤ sizeLine ∧ ∀ q, H q = none → Q (.ref q) (upd H q (.lst zs))
theorem call_listO (hi : L2.Meth X.K C "__iter__" fi) (FI : ItOk X.prog X.w X.K X.mg X.base k fi C fl) (hm : L2.Meth X.K C "__len__" fn) (F1 : FnOk X.prog X.w X.K X.mg X.base (L2.CX X.prog X.w) k fn fd ps (spLn X.K C gl)) (hb : L2.Binds X.K fd ps []) (hr : Room (k + 3) X.A) (hc : X.calm = true) :
    CallR X (.type "list") (rListO X.K C fl gl) := by
  intro pins s σ H xs us Q I rv h
  obtain ⟨a, dx, fs, l, zs, v, n, rfl, ha, hf, hq, hz, hg, hv, hn, qq⟩ := h
  obtain ⟨u, rfl, ru⟩ := rv.one
  cases ru
  have hh : X.A.in1.in1.handled = none := I.ok.hd hc
  refine callType_codes (Q₁ := fun obj s₁ => obj = .ref s.heap.objs.size ∧ s₁ = { s with heap := s.heap.push { cls := .type "list", data := .seq #[] } }) PySem.F.called_list (PySem.F.typeCall_list_1 _) PySem.F.entry_list_init
    (code_list_new _ ⟨rfl, rfl⟩) fun obj s₁ h₁ => ?_
  obtain ⟨rfl, rfl⟩ := h₁
  have hS : (s.heap.push { cls := .type "list", data := .seq #[] }).get? s.heap.objs.size = some { cls := .type "list", data := .seq #[] } := Heap.get?_push_size _ rfl
  refine ⟨⟨_, hS, rfl⟩, PySem.F.args_list_init_2 _ _, ?_⟩
  have fr : H s.heap.objs.size = none := I.hok.fresh (Nat.le_refl _)
  have I1 : Inv X pins σ (upd H s.heap.objs.size (.lst [])) { s with heap := s.heap.push { cls := .type "list", data := .seq #[] } } := I.lnew (its := []) (t' := s.toks) .nil (Nat.zero_le _)
  show wpAny _ _ (do let old ← Builtin.List.listItems (.ref s.heap.objs.size); Builtin.List.listUpdate (.ref s.heap.objs.size) (fun _ => #[]); letGo old.toList.reverse; Builtin.List.listExtendWith (.ref s.heap.objs.size) (.ref a) .none) _ _ _
  refine wpAny_bind ?_
  unfold Builtin.List.listItems
  refine wpAny_bind (wpAny_seqItems hS rfl (wpAny_pure ?_))
  show wpAny _ _ (updateSeq s.heap.objs.size (fun _ => #[]) >>= fun _ => letGo (#[] : Array Value).toList.reverse >>= fun _ => Builtin.List.listExtendWith (.ref s.heap.objs.size) (.ref a) .none) _ _ _
  refine wpAny_bind (wpAny_updateSeq hS rfl ?_)
  have I2 := I1.lset (f := fun _ => #[]) (its := []) (its' := []) (ys := []) (t' := s.toks) upd_same hS rfl .nil (Nat.zero_le _)
  rw [upd_upd] at I2
  refine wpAny_bind (wpAny_letGo ?_)
  generalize s.heap.objs.size = q at fr I2 qq hS ⊢
  generalize ({ heap := Heap.update _ q _, gens := _, drawn := _, toks := _, os := _ } : Shared) = s3 at I2 ⊢
  have ha2 : upd H q (.lst []) a = some (.ins C dx fs) := by rw [upd_ne (ne_of_none ha fr)]; exact ha
  have hq2 : SqL X.K (upd H q (.lst [])) l zs := (Ex.new fr).l hq
  have hne : q ≠ a := fun z => by rw [← z, fr] at ha; cases ha
  obtain ⟨ox, od, J, _⟩ := ins_at I2 ha2
  obtain ⟨m0, hF⟩ := I2.fr
  unfold Builtin.List.listExtendWith
  refine wpAny_bind (J.type.here ?_)
  have h1 : Builtin.List.listSameRef (.ref q) (.ref a) = false := by simp [Builtin.List.listSameRef, hne]
  have h2 : (Value.ref C == Value.type "list") = false := rfl
  have h3 : (Value.ref C == Value.type "tuple") = false := rfl
  simp only [h1, h2, h3, Bool.or_false, Bool.false_eq_true, if_false]
  have rr : Room (k + 1) X.A.in1.in1 := (show Room (k + 2) X.A.in1 from Room.in1 hr).in1
  refine wpAny_bind (PySem.W.owit_iter hF I2.ok.mod.kin J hi.at_ hi.fn (wpAny_mono (run_it (A := X.A.in1.in1) FI (rr.mono (by omega)) I2.env0.in1.in1 I2 ha2 hf hq2) (fun u s4 z => ?_) fun _ _ z => z))
  obtain ⟨it, rfl, hsz, hit, I4⟩ := z
  have hItO : upd (upd H q (.lst [])) it (ItO l it 0) it = some (ItO l it 0) := upd_same
  have hneI : it ≠ q := fun z => by rw [z, upd_same] at hit; cases hit
  refine it_next I4 hItO ?_
  have hItO' := hItO
  unfold ItO at hItO'
  have I5 := inv_drop I4 hItO'
  rw [dropH_upd hit] at I5
  have fp : FpOk X pins (upd H q (.lst [])) it := by
    have := inv_fp I4 hItO (Nat.le_trans I2.sz hsz)
    rw [dropH_upd hit] at this
    exact this
  have eo := itO_get I4 hItO
  have st : s4.heap.IsListIter it l 0 := ⟨_, eo, rfl, rfl⟩
  have hvq : LenX X.K v (upd H q (.lst [])) n := lenX_put hv fr
  have fin : ∀ s', Inv X pins σ (upd H q (.lst zs)) s' → wants (fun r s₂ => r = .none ∧ EP X pins σ Q (.ref q) s₂) X.xe (.ok (.ret .none)) s' := fun s' I' => ⟨rfl, .ref q, _, I', rfl, qq q fr⟩
  refine wpAny_bind (wpAny_holding (len_hint (A := X.A.in1.in1) hm F1 hb rr I4.env0.in1.in1 I4 (by rw [upd_ne (ne_of_none ha2 hit)]; exact ha2) hg (lenX_put hvq hit) hn fun b s5 I6 => ?_))
  have eo5 := itO_get I6 hItO
  have st5 : s5.heap.IsListIter it l 0 := ⟨_, eo5, rfl, rfl⟩
  have I7 := inv_drop I6 hItO'
  rw [dropH_upd hit] at I7
  obtain ⟨z, its, kk, r3, hl3, e3⟩ := I7.lstM upd_same
  cases r3
  refine wpAny_ite_split (fun _ => ?_) (fun _ => wpAny_pure ⟨plainId_quiet PySem.F.plain_extend_loop _, ext_loop (A1 := X.A.in1) hh fr hq hz fin zs.length 0 s5 (by omega) I7 fp st5⟩)
  refine wpAny_bind (wpAny_rule ?_)
  refine wpAny_bind ?_
  show wpAny _ _ (updateSeq q (·.push .none) >>= fun _ => updateSeq q (·.pop)) _ _ _
  refine wpAny_bind (wpAny_updateSeq e3 rfl ?_)
  have I8 := I7.lset (f := (·.push Value.none)) (its' := [Value.none]) (ys := [.non]) (t' := s5.toks) upd_same e3 (by simp) (.cons rfl .nil) (by rw [List.length_singleton, sizeLine_eq]; decide)
  obtain ⟨z4, its4, k4, r4, hl4, e4⟩ := I8.lstM upd_same
  obtain ⟨u4, rfl, ru4⟩ := r4.one
  refine wpAny_updateSeq e4 rfl ?_ (by show 1 ≤ sizeLine; rw [sizeLine_eq]; decide) (by show 0 ≤ sizeLine + 1; exact Nat.zero_le _)
  have I9 := I8.lset (f := (·.pop)) (its := [u4]) (its' := []) (ys := []) (t' := s5.toks) upd_same e4 (by rfl) .nil (Nat.zero_le _)
  rw [upd_upd, upd_upd] at I9
  refine wpAny_pure ⟨plainId_quiet PySem.F.plain_extend_loop _, ext_loop (A1 := X.A.in1) hh fr hq hz fin zs.length 0 _ (by omega) I9 fp ?_⟩
  obtain ⟨o, eo6, co, do_⟩ := st5
  exact ⟨o, by rw [PySem.Heap.get?_update_ne _ _ _ _ hneI, PySem.Heap.get?_update_ne _ _ _ _ hneI]; exact eo6, co, do_⟩
/-- an object of the class n: a list of the items of its list fl, where its gl has a length -/
noncomputable def listO (n fl gl : Str) (d : D) : Res D := match d with
  | .obj c ns vs => if c = n then (match lookF ns vs fl, lookF ns vs gl with
    | some (.lst ds), some (.lst es) => guard (ds.length ≤ sizeLine ∧ es.length ≤ sizeLine) (.ok (.lst ds))
    | some (.lst ds), some (.dt ks es) => guard (ds.length ≤ sizeLine ∧ ks.length ≤ sizeLine) (.ok (.lst ds))
    | _, _ => .bad) else .bad
  | _ => .bad
theorem cs_listO {c : Cf} {n : Str} (hcn : c.cm n = some C) : CallS c (mO c) (rListO c.K C fl gl) [true] (g1 (listO n fl gl)) := by
  intro σ S H vs ds Q ex m p
  obtain ⟨v, d, rfl, rfl, h⟩ := m.one
  replace p : PostG c σ S H (listO n fl gl d) (fun a S' H' => ∀ b, mO c H S' H' b a → Q b H') := p
  cases d with
  | obj c' ns vs =>
    unfold listO at p
    dsimp only at p
    split at p
    · rename_i hc
      subst hc
      split at p
      · rename_i ds es hd he
        obtain ⟨⟨z1, z2⟩, p⟩ := p.gd
        obtain ⟨q, C', dx, fs, rfl, h1, h2, rfl, h4⟩ := RpB.obj h ex
        rw [hcn] at h1; cases h1
        obtain ⟨v1, hv1, hr1⟩ := look_rp h4 hd
        obtain ⟨v2, hv2, hr2⟩ := look_rp h4 he
        cases hr1 with
        | @lst l xs _ a1 a2 =>
          cases hr2 with
          | @lst l2 ys _ b1 b2 =>
            exact ⟨q, dx, fs, l, xs, .ref l2, ys.length, rfl, h2, hv1, .inl (.inl (ex _ _ a1)), by rw [a2.length]; exact z1, hv2, .inl (.inl ⟨ys, .inl (.inl (ex _ _ b1)), rfl⟩), by rw [b2.length]; exact z2, fun q hq => PostG.kept p ex hq (.lst a2)⟩
      · rename_i ds ks es hd he
        obtain ⟨⟨z1, z2⟩, pk⟩ := p.gd
        obtain ⟨q, C', dx, fs, rfl, h1, h2, rfl, h4⟩ := RpB.obj h ex
        rw [hcn] at h1; cases h1
        obtain ⟨v1, hv1, hr1⟩ := look_rp h4 hd
        obtain ⟨v2, hv2, hr2⟩ := look_rp h4 he
        cases hr1 with
        | @lst l xs _ a1 a2 =>
          cases hr2 with
          | @dt l2 w kvs _ _ b1 b2 b3 =>
            subst b2
            exact ⟨q, dx, fs, l, xs, .ref l2, kvs.length, rfl, h2, hv1, .inl (.inl (ex _ _ a1)), by rw [a2.length]; exact z1, hv2, .inr ⟨l2, kvs, rfl, .inr ⟨_, ex _ _ b1⟩, rfl⟩, by simpa using z2, fun q hq => PostG.kept pk ex hq (.lst a2)⟩
      · exact p.elim
    · exact p.elim
  | _ => exact p.elim
end
end Dx
end S_DxP
section S_DxM
set_option Elab.async false
set_option linter.all false
set_option maxRecDepth 100000
namespace Dx
open PySem L2
def Rs {α : Type} (x : Res α) (Q : α → Prop) (E : Str → List Str → List D → Prop) : Prop := match x with
  | .ok a => Q a
  | .err n ns vs => E n ns vs
  | .bad => False
def nE : Str → List Str → List D → Prop := fun _ _ _ => False
def nE' : Rho → Str → List Str → List D → Prop := fun _ _ _ _ => False
def nR : Rho → Prop := fun _ => False
def Ss (o : SR) (N : Rho → Prop) (R : D → Prop) (B C : Rho → Prop) (E : Rho → Str → List Str → List D → Prop) : Prop := match o with
  | .nx r => N r
  | .rt d => R d
  | .bk r => B r
  | .ct r => C r
  | .er r n ns vs => E r n ns vs
  | .bad => False
section
variable {α β : Type} {Q Q' : α → Prop} {E E' : Str → List Str → List D → Prop}
theorem Rs.imp {x : Res α} (h : Rs x Q nE) (k : ∀ a, Q a → Q' a) : Rs x Q' E := by
  cases x with
  | ok a => exact k a h
  | err n ns vs => exact h.elim
  | bad => exact h.elim
theorem Rs.impE {x : Res α} (h : Rs x Q E) (k : ∀ a, Q a → Q' a) (l : ∀ n ns vs, E n ns vs → E' n ns vs) : Rs x Q' E' := by
  cases x with
  | ok a => exact k a h
  | err n ns vs => exact l _ _ _ h
  | bad => exact h.elim
theorem Rs.of {x : Res α} {a : α} (h : x = .ok a) (q : Q a) : Rs x Q E := by rw [h]; exact q
theorem Rs.eq {x : Res α} {a : α} (h : Rs x (fun b => b = a) nE) : x = .ok a := by
  cases x with
  | ok b => exact congrArg _ h
  | err n ns vs => exact h.elim
  | bad => exact h.elim
theorem Rs.get {x : Res α} (h : Rs x Q nE) : ∃ a, x = .ok a ∧ Q a := by
  cases x with
  | ok a => exact ⟨a, rfl, h⟩
  | err n ns vs => exact h.elim
  | bad => exact h.elim
theorem Rs.bind {x : Res β} {k : β → Res α} (h : Rs x (fun b => Rs (k b) Q E) E) : Rs (x.bind k) Q E := by
  cases x with
  | ok a => exact h
  | err n ns vs => exact h
  | bad => exact h
theorem rs_guard {p : Prop} {x : Res α} (h : p) (k : Rs x Q E) : Rs (guard p x) Q E := by rw [guard_pos h]; exact k
end
section
variable {Q : D → Prop} {E : Str → List Str → List D → Prop} {r : Rho} {f f1 f2 f3 : Rho → Res D} {fs : Rho → Res (List D)} {t u : Rho → Res Bool} {d : D} {i : Nat}
theorem rs_var (h : r[i]? = some (some d)) (q : Q d) : Rs (dVar i r) Q E := by unfold dVar; rw [h]; exact q
theorem rs_c (q : Q d) : Rs (dC d r) Q E := q
theorem rs_op {g : D → D → Res D} (h : Rs (f1 r) (fun a => Rs (f2 r) (fun b => Rs (g a b) Q E) E) E) : Rs (dOp g f1 f2 r) Q E := Rs.bind (h.impE (fun a q => Rs.bind q) fun _ _ _ z => z)
theorem rs_str {g : D → D → Res D} (h : Rs (f1 r) (fun a => Rs (asS a) (fun _ => Rs (f2 r) (fun b => Rs (g a b) Q E) E) E) E) : Rs (dStr g f1 f2 r) Q E := Rs.bind (h.impE (fun a q => Rs.bind (q.impE (fun _ q => Rs.bind q) fun _ _ _ z => z)) fun _ _ _ z => z)
theorem rs_asS {z : Str} {Q : Str → Prop} (q : Q z) : Rs (asS (.str z)) Q E := q
theorem rs_un {g : D → Res D} (h : Rs (f r) (fun a => Rs (g a) Q E) E) : Rs (dUn g f r) Q E := Rs.bind h
theorem rs_nil {Q : List D → Prop} (q : Q []) : Rs (dNil r) Q E := q
theorem rs_cons {Q : List D → Prop} (h : Rs (f r) (fun x => Rs (fs r) (fun xs => Q (x :: xs)) E) E) : Rs (dCons f fs r) Q E := Rs.bind (h.impE (fun a q => Rs.bind q) fun _ _ _ z => z)
theorem rs_call {g : List D → Res D} (h : Rs (fs r) (fun ds => Rs (g ds) Q E) E) : Rs (dCall g fs r) Q E := Rs.bind h
theorem rs_tup (h : Rs (fs r) (fun ds => ds.length ≤ sizeLine ∧ Q (.tup ds)) E) : Rs (dTup fs r) Q E := Rs.bind (h.impE (fun ds q => rs_guard q.1 q.2) fun _ _ _ z => z)
theorem rs_lst (h : Rs (fs r) (fun ds => ds.length ≤ sizeLine ∧ Q (.lst ds)) E) : Rs (dLst fs r) Q E := Rs.bind (h.impE (fun ds q => rs_guard q.1 q.2) fun _ _ _ z => z)
theorem rs_T {Q : Bool → Prop} (h : Rs (f r) (fun d => Rs (asB d) Q E) E) : Rs (dT f r) Q E := Rs.bind h
theorem rs_asB {b : Bool} {Q : Bool → Prop} (q : Q b) : Rs (asB (.bl b)) Q E := q
theorem rs_asI {b : Int} {Q : Int → Prop} (q : Q b) : Rs (asI (.int b)) Q E := q
theorem rs_not {Q : Bool → Prop} (h : Rs (t r) (fun b => Q (!b)) E) : Rs (dNot t r) Q E := Rs.bind h
theorem rs_and {Q : Bool → Prop} (h : Rs (t r) (fun a => Rs (u r) (fun b => Q (a && b)) nE) E) : Rs (dAnd t u r) Q E := Rs.bind (h.impE (fun a q => by
  cases a
  · obtain ⟨b, _, q⟩ := q.get
    exact q
  · exact q.impE (fun _ z => z) fun _ _ _ z => z.elim) fun _ _ _ z => z)
theorem rs_or {Q : Bool → Prop} (h : Rs (t r) (fun a => Rs (u r) (fun b => Q (a || b)) nE) E) : Rs (dOr t u r) Q E := Rs.bind (h.impE (fun a q => by
  cases a
  · exact q.impE (fun _ z => z) fun _ _ _ z => z.elim
  · obtain ⟨b, _, q⟩ := q.get
    exact q) fun _ _ _ z => z)
theorem rs_andc {Q : Bool → Prop} (h : Rs (t r) (fun a => (a = true → Rs (u r) Q E) ∧ (a = false → Q false)) E) : Rs (dAnd t u r) Q E := Rs.bind (h.impE (fun a q => by
  cases a
  · exact q.2 rfl
  · exact q.1 rfl) fun _ _ _ z => z)
theorem rs_orc {Q : Bool → Prop} (h : Rs (t r) (fun a => (a = true → Q true) ∧ (a = false → Rs (u r) Q E)) E) : Rs (dOr t u r) Q E := Rs.bind (h.impE (fun a q => by
  cases a
  · exact q.2 rfl
  · exact q.1 rfl) fun _ _ _ z => z)
theorem rs_andV (h : Rs (f1 r) (fun a => Rs (asB a) (fun a => Rs (f2 r) (fun b => Rs (asB b) (fun b => Q (.bl (a && b))) nE) nE) E) E) : Rs (dAndV f1 f2 r) Q E := Rs.bind (h.impE (fun a q => Rs.bind (q.impE (fun a q => by
  obtain ⟨b, e, q⟩ := q.get
  cases b with
  | bl b =>
    cases a
    · exact q
    · exact Rs.of e q
  | _ => exact q.elim) fun _ _ _ z => z)) fun _ _ _ z => z)
theorem rs_orV (h : Rs (f1 r) (fun a => Rs (asB a) (fun a => Rs (f2 r) (fun b => Rs (asB b) (fun b => Q (.bl (a || b))) nE) nE) E) E) : Rs (dOrV f1 f2 r) Q E := Rs.bind (h.impE (fun a q => Rs.bind (q.impE (fun a q => by
  obtain ⟨b, e, q⟩ := q.get
  cases b with
  | bl b =>
    cases a
    · exact Rs.of e q
    · exact q
  | _ => exact q.elim) fun _ _ _ z => z)) fun _ _ _ z => z)
theorem rs_andVc (h : Rs (f1 r) (fun a => Rs (asB a) (fun a => (a = true → Rs (f2 r) Q E) ∧ (a = false → Q (.bl false))) E) E) : Rs (dAndV f1 f2 r) Q E := Rs.bind (h.impE (fun a q => Rs.bind (q.impE (fun a q => by
  cases a
  · exact q.2 rfl
  · exact q.1 rfl) fun _ _ _ z => z)) fun _ _ _ z => z)
theorem rs_orVc (h : Rs (f1 r) (fun a => Rs (asB a) (fun a => (a = true → Q (.bl true)) ∧ (a = false → Rs (f2 r) Q E)) E) E) : Rs (dOrV f1 f2 r) Q E := Rs.bind (h.impE (fun a q => Rs.bind (q.impE (fun a q => by
  cases a
  · exact q.2 rfl
  · exact q.1 rfl) fun _ _ _ z => z)) fun _ _ _ z => z)
theorem rs_notV (h : Rs (f r) (fun a => Rs (asB a) (fun b => Q (.bl (!b))) E) E) : Rs (dNotV f r) Q E := Rs.bind (h.impE (fun a q => Rs.bind q) fun _ _ _ z => z)
theorem rs_ifx {α : Type} {Q : α → Prop} {f g : Rho → Res α} (h : Rs (t r) (fun b => (b = true → Rs (f r) Q E) ∧ (b = false → Rs (g r) Q E)) E) : Rs (dIf t f g r) Q E := Rs.bind (h.impE (fun a q => by
  cases a
  · exact q.2 rfl
  · exact q.1 rfl) fun _ _ _ z => z)
theorem rs_tru {Q : Bool → Prop} (h : Rs (f r) (fun d => Rs (truB d) Q E) E) : Rs (dTru f r) Q E := Rs.bind h
theorem rs_truB {b : Bool} {Q : Bool → Prop} (q : Q b) : Rs (truB (.bl b)) Q E := q
theorem rs_truI {b : Int} {Q : Bool → Prop} (q : Q (b != 0)) : Rs (truB (.int b)) Q E := q
theorem rs_truL {ds : List D} {Q : Bool → Prop} (q : Q (!ds.isEmpty)) : Rs (truB (.lst ds)) Q E := q
theorem rs_truT {ds : List D} {Q : Bool → Prop} (q : Q (!ds.isEmpty)) : Rs (truB (.tup ds)) Q E := q
theorem rs_truN {Q : Bool → Prop} (q : Q false) : Rs (truB .non) Q E := q
theorem rs_chain {g g' : D → D → Res D} (h : Rs (f1 r) (fun x => Rs (f2 r) (fun y => Rs (g x y) (fun z => Rs (asB z) (fun a => Rs (f3 r) (fun w => Rs (g' y w) (fun e => Rs (asB e) (fun b => Q (.bl (a && b))) nE) nE) nE) E) E) E) E) : Rs (dChain g g' f1 f2 f3 r) Q E :=
  Rs.bind (h.impE (fun x q => Rs.bind (q.impE (fun y q => Rs.bind (q.impE (fun z q => Rs.bind (q.impE (fun a q => by
    obtain ⟨w, e1, q⟩ := q.get
    obtain ⟨e, e2, q⟩ := q.get
    cases e with
    | bl b =>
      cases a
      · exact q
      · exact Rs.bind (Rs.of e1 (Rs.of e2 q))
    | _ => exact q.elim) fun _ _ _ z => z)) fun _ _ _ z => z)) fun _ _ _ z => z)) fun _ _ _ z => z)
theorem rs_noP {Q : Option Int → Prop} (q : Q none) : Rs (dNoP r) Q E := q
theorem rs_part {Q : Option Int → Prop} (h : Rs (f r) (fun d => Rs (asI d) (fun i => Q (some i)) E) E) : Rs (dPart f r) Q E := Rs.bind (h.impE (fun a q => Rs.bind q) fun _ _ _ z => z)
theorem rs_sl {g : D → Option Int → Option Int → Res D} {fl fh : Rho → Res (Option Int)} (h : Rs (f r) (fun d => Rs (fl r) (fun l => Rs (fh r) (fun k => Rs (g d l k) Q E) E) E) E) : Rs (dSl g f fl fh r) Q E := Rs.bind (h.impE (fun a q => Rs.bind (q.impE (fun _ q => Rs.bind q) fun _ _ _ z => z)) fun _ _ _ z => z)
theorem rs_it {g : D → Res (List D)} {Q : List D → Prop} (h : Rs (f r) (fun d => Rs (g d) Q E) E) : Rs (dIt g f r) Q E := Rs.bind h
theorem rs_its {g : List D → Res (List D)} {Q : List D → Prop} (h : Rs (fs r) (fun d => Rs (g d) Q E) E) : Rs (dIts g fs r) Q E := Rs.bind h
theorem rs_yes {Q : Bool → Prop} (q : Q true) : Rs (dYes r) Q E := q
theorem rs_meth {n m : Str} {F : List D → Res D} (h : Rs (f r) (fun x => Rs (isObj n m x) (fun _ => Rs (fs r) (fun ds => Rs (F (x :: ds)) Q E) E) E) E) : Rs (dMeth n m F f fs r) Q E := Rs.bind (h.impE (fun a q => Rs.bind (q.impE (fun _ q => Rs.bind q) fun _ _ _ z => z)) fun _ _ _ z => z)
theorem rs_isObj {n m : Str} {ns : List Str} {vs : List D} {Q : Unit → Prop} (h : m ∉ ns) (q : Q ()) : Rs (isObj n m (.obj n ns vs)) Q E := by
  show Rs (if n = n ∧ m ∉ ns then .ok () else .bad) Q E
  rw [if_pos ⟨rfl, h⟩]; exact q
theorem rs_fld {n fl : Str} {ns : List Str} {vs : List D} (h : lookF ns vs fl = some d) (q : Q d) : Rs (fldD n fl (.obj n ns vs)) Q E := by
  show Rs (if n = n then (match lookF ns vs fl with | some d => .ok d | none => .bad) else .bad) Q E
  rw [if_pos rfl, h]; exact q
end
abbrev Sg (l : List Nat) : Str := ⟨l.toArray⟩
theorem ST_len (l : List Nat) : (Sg l).length = l.length := by simp [Sg, Str.length]
theorem ST_app (a b : List Nat) : Sg a ++ Sg b = Sg (a ++ b) := TL.ext_tl (by rw [TL.tl_append])
theorem ST_inj {a b : List Nat} : Sg a = Sg b ↔ a = b := ⟨fun h => congrArg TL.tl h, fun h => by rw [h]⟩
theorem ST_dec (a b : List Nat) : decide (Sg a = Sg b) = decide (a = b) := by
  by_cases h : a = b
  · subst h; simp
  · simp [h, ST_inj]
section
variable {Q : D → Prop} {E : Str → List Str → List D → Prop} {i j : Int} {a b : List Nat} {ds es : List D} {d e : D}
theorem rs_add (q : Q (.int (i + j))) : Rs (addD (.int i) (.int j)) Q E := q
theorem rs_addS (h : a.length + b.length ≤ sizeLine) (q : Q (.str (Sg (a ++ b)))) : Rs (addD (.str (Sg a)) (.str (Sg b))) Q E := rs_guard (by rw [ST_len, ST_len]; exact h) (by rw [ST_app]; exact q)
theorem rs_addT (h : ds.length + es.length ≤ sizeLine) (q : Q (.tup (ds ++ es))) : Rs (addD (.tup ds) (.tup es)) Q E := rs_guard h q
theorem rs_addLL (h : ds.length + es.length ≤ sizeLine) (q : Q (.lst (ds ++ es))) : Rs (addD (.lst ds) (.lst es)) Q E := rs_guard h q
theorem rs_addLO (h : ds.length + es.length ≤ sizeLine) (q : Q (.lst (ds ++ es))) : Rs (addL (.lst ds) (.lst es)) Q E := rs_guard h q
theorem rs_sub (q : Q (.int (i - j))) : Rs (subD (.int i) (.int j)) Q E := q
theorem rs_neg (q : Q (.int (-i))) : Rs (negD (.int i)) Q E := q
theorem rs_mul (h : smallI i ∨ smallI j) (q : Q (.int (i * j))) : Rs (mulX (.int i) (.int j)) Q E := rs_guard h q
theorem rs_mulL (h : 0 ≤ j ∧ j < 2 ^ 60 ∧ ds.length * j.toNat ≤ sizeLine) (q : Q (.lst (List.replicate j.toNat ds).flatten)) : Rs (mulX (.lst ds) (.int j)) Q E := rs_guard h q
theorem rs_fdiv (h : 0 < j ∧ j < 4611686018427387904) (q : Q (.int (i / j))) : Rs (fdivD (.int i) (.int j)) Q E := by
  show Rs (if 0 < j then guard (j < 4611686018427387904) (.ok (.int (i / j))) else _) Q E
  rw [if_pos h.1]; exact rs_guard h.2 q
theorem rs_mod (h : 0 < j) (q : Q (.int (i % j))) : Rs (modD (.int i) (.int j)) Q E := rs_guard h q
theorem rs_eqI (q : Q (.bl (decide (i = j)))) : Rs (eqD (.int i) (.int j)) Q E := q
theorem rs_neI (q : Q (.bl (!decide (i = j)))) : Rs (neD (.int i) (.int j)) Q E := q
theorem rs_eqS (q : Q (.bl (decide (a = b)))) : Rs (eqD (.str (Sg a)) (.str (Sg b))) Q E := by
  show Q (.bl (decide (Sg a = Sg b)))
  rw [ST_dec]; exact q
theorem rs_neS (q : Q (.bl (!decide (a = b)))) : Rs (neD (.str (Sg a)) (.str (Sg b))) Q E := by
  show Q (.bl (!decide (Sg a = Sg b)))
  rw [ST_dec]; exact q
theorem rs_eqB {x y : Bool} (q : Q (.bl (decide (x = y)))) : Rs (eqD (.bl x) (.bl y)) Q E := q
theorem rs_neB {x y : Bool} (q : Q (.bl (!decide (x = y)))) : Rs (neD (.bl x) (.bl y)) Q E := q
theorem rs_lt (q : Q (.bl (decide (i < j)))) : Rs (ltD (.int i) (.int j)) Q E := q
theorem rs_le (q : Q (.bl (decide (i ≤ j)))) : Rs (leD (.int i) (.int j)) Q E := q
theorem rs_gt (q : Q (.bl (decide (j < i)))) : Rs (gtD (.int i) (.int j)) Q E := q
theorem rs_ge (q : Q (.bl (decide (j ≤ i)))) : Rs (geD (.int i) (.int j)) Q E := q
theorem rs_is (q : Q (.bl (isN d))) : Rs (isD false d .non) Q E := q
theorem rs_isn (q : Q (.bl (!isN d))) : Rs (isD true d .non) Q E := q
theorem rs_inS {n : Nat} (q : Q (.bl (decide (n ∈ b)))) : Rs (inD (.str (Sg [n])) (.str (Sg b))) Q E := q
theorem rs_ninS {n : Nat} (q : Q (.bl (!decide (n ∈ b)))) : Rs (ninD (.str (Sg [n])) (.str (Sg b))) Q E := q
theorem rs_lenS (h : a.length ≤ sizeLine) (q : Q (.int a.length)) : Rs (g1 lenD [.str (Sg a)]) Q E := rs_guard (by rw [ST_len]; exact h) (by show Q _; rw [ST_len]; exact q)
theorem rs_lenL (q : Q (.int ds.length)) : Rs (g1 lenD [.lst ds]) Q E := q
theorem rs_lenF (q : Q (.int ds.length)) : Rs (g1 lenD [.fz ds]) Q E := q
theorem rs_lenT (q : Q (.int ds.length)) : Rs (g1 lenD [.tup ds]) Q E := q
theorem rs_int (q : Q (.int i)) : Rs (g1 intD [.int i]) Q E := q
theorem rs_intB {x : Bool} (q : Q (.int (if x then 1 else 0))) : Rs (g1 intD [.bl x]) Q E := q
theorem rs_abs (q : Q (.int (if i < 0 then -i else i))) : Rs (g1 absD [.int i]) Q E := q
theorem rs_listL (q : Q (.lst ds)) : Rs (g1 listD [.lst ds]) Q E := q
theorem rs_listT (q : Q (.lst ds)) : Rs (g1 listD [.tup ds]) Q E := q
theorem rs_tupL (q : Q (.tup ds)) : Rs (g1 tupleD [.lst ds]) Q E := q
theorem rs_tupT (q : Q (.tup ds)) : Rs (g1 tupleD [.tup ds]) Q E := q
theorem rs_ixL (h : atI ds i = some d) (q : Q d) : Rs (ixD (.lst ds) (.int i)) Q E := by
  show Rs (match atI ds i with | some d => Res.ok d | none => Res.bad) Q E
  rw [h]; exact q
theorem rs_ixF (h : atI ds i = some d) (q : Q d) : Rs (ixD (.fz ds) (.int i)) Q E := by
  show Rs (match atI ds i with | some d => Res.ok d | none => Res.bad) Q E
  rw [h]; exact q
theorem rs_ixT (h : atI ds i = some d) (q : Q d) : Rs (ixD (.tup ds) (.int i)) Q E := by
  show Rs (match atI ds i with | some d => Res.ok d | none => Res.bad) Q E
  rw [h]; exact q
theorem rs_slL {lo hi : Option Int} (q : Q (.lst (cutL ds lo hi))) : Rs (slD (.lst ds) lo hi) Q E := q
theorem rs_slO {lo hi : Option Int} (q : Q (.lst (cutL ds lo hi))) : Rs (slL (.lst ds) lo hi) Q E := q
theorem rs_slT {lo hi : Option Int} (q : Q (.tup (cutL ds lo hi))) : Rs (slD (.tup ds) lo hi) Q E := q
theorem cutS_ST {lo hi : Option Int} : cutS (Sg a) lo hi = Sg (cutL a lo hi) := by
  unfold cutS cutL
  rw [ST_len]
theorem rs_slS {lo hi : Option Int} (h : a.length ≤ sizeLine) (q : Q (.str (Sg (cutL a lo hi)))) : Rs (slD (.str (Sg a)) lo hi) Q E := rs_guard (by rw [ST_len]; exact h) (by rw [cutS_ST]; exact q)
theorem rs_rng1 {n : Nat} {Q : List D → Prop} (h : n < 4611686018427387904) (q : Q (rngL 0 n)) : Rs (rng1 [.int (n : Int)]) Q E := rs_guard (by omega) (by rw [Int.toNat_natCast]; exact q)
theorem rs_rng2 {Q : List D → Prop} (h : -4611686018427387904 ≤ i ∧ i < 4611686018427387904 ∧ -4611686018427387904 ≤ j ∧ j < 4611686018427387904) (q : Q (rngL i (j - i).toNat)) : Rs (rng2 [.int i, .int j]) Q E := rs_guard h q
theorem rs_itsL {Q : List D → Prop} (q : Q ds) : Rs (itemsL (.lst ds)) Q E := q
theorem rs_itsT {Q : List D → Prop} (q : Q ds) : Rs (itemsT (.tup ds)) Q E := q
theorem rs_itsS {Q : List D → Prop} (q : Q (a.map fun n => .str (Sg [n]))) : Rs (itemsS (.str (Sg a))) Q E := q
theorem rs_enL {Q : List D → Prop} (q : Q (numd 0 ds)) : Rs (enumL (.lst ds)) Q E := q
theorem rs_enT {Q : List D → Prop} (q : Q (numd 0 ds)) : Rs (enumT (.tup ds)) Q E := q
theorem rs_enS {Q : List D → Prop} (q : Q (numd 0 (a.map fun n => .str (Sg [n])))) : Rs (enumS (.str (Sg a))) Q E := q
theorem rs_isi {T n : String} {b : Bool} (h1 : tyN d = some n) (h2 : kitB n T = some b) (q : Q (.bl b)) : Rs (isiD T d) Q E := by unfold isiD; rw [h1]; dsimp only; rw [h2]; exact q
end
section
variable {N B C : Rho → Prop} {R : D → Prop} {E : Rho → Str → List Str → List D → Prop} {r : Rho} {f f1 f2 fi : Rho → Res D} {fs : Rho → Res (List D)} {t : Rho → Res Bool} {d : D} {F K : Rho → SR} {i j : Nat}
theorem Ss.imp {N' B' C' : Rho → Prop} {R' : D → Prop} {E' : Rho → Str → List Str → List D → Prop} {o : SR} (h : Ss o N R B C E) (hn : ∀ r, N r → N' r) (hr : ∀ d, R d → R' d) (hb : ∀ r, B r → B' r) (hc : ∀ r, C r → C' r) (he : ∀ r n ns vs, E r n ns vs → E' r n ns vs) : Ss o N' R' B' C' E' := by
  cases o with
  | nx r => exact hn _ h
  | rt d => exact hr _ h
  | bk r => exact hb _ h
  | ct r => exact hc _ h
  | er r n ns vs => exact he _ _ _ _ h
  | bad => exact h
theorem ss_nx (h : N r) : Ss (.nx r) N R B C E := h
theorem ss_bk (h : B r) : Ss (.bk r) N R B C E := h
theorem ss_ct (h : C r) : Ss (.ct r) N R B C E := h
theorem ss_lift {α : Type} {x : Res α} {k : α → SR} (h : Rs x (fun a => Ss (k a) N R B C E) (E r)) : Ss (liftS r x k) N R B C E := by
  cases x with
  | ok a => exact h
  | err n ns vs => exact h
  | bad => exact h
theorem ss_seq (h : Ss (F r) (fun r' => Ss (K r') N R B C E) R B C E) : Ss (seqF F K r) N R B C E := by
  unfold seqF
  cases e : F r with
  | nx r' => rw [e] at h; exact h
  | rt d => rw [e] at h; exact h
  | bk r => rw [e] at h; exact h
  | ct r => rw [e] at h; exact h
  | er r n ns vs => rw [e] at h; exact h
  | bad => rw [e] at h; exact h
theorem ss_set (h : Rs (f r) (fun d => N (r.set i (some d))) (E r)) : Ss (setF i f r) N R B C E := ss_lift h
theorem ss_ret (h : Rs (f r) R (E r)) : Ss (retF f r) N R B C E := ss_lift h
theorem ss_drop (h : Rs (f r) (fun _ => N r) (E r)) : Ss (dropF f r) N R B C E := ss_lift h
theorem ss_if (h : Rs (t r) (fun b => (b = true → Ss (F r) N R B C E) ∧ (b = false → Ss (K r) N R B C E)) (E r)) : Ss (ifF t F K r) N R B C E := ss_lift (h.impE (fun b q => by
  cases b
  · exact q.2 rfl
  · exact q.1 rfl) fun _ _ _ z => z)
theorem ss_app {ds : List D} (h1 : r[i]? = some (some (.lst ds))) (h : Rs (f r) (fun d => ds.length < sizeLine ∧ N (r.set i (some (.lst (ds ++ [d]))))) (E r)) : Ss (appF i f r) N R B C E := by
  unfold appF
  refine ss_lift (Rs.of (a := ds) (by unfold ownL; rw [h1]) (ss_lift (h.impE (fun d q => ?_) fun _ _ _ z => z)))
  rw [guardS_pos q.1]; exact q.2
theorem ss_asg {tg : D → Rho → Res Rho} (h : Rs (f r) (fun d => ∃ r', tg d r = .ok r' ∧ N r') (E r)) : Ss (asgF tg f r) N R B C E := ss_lift (h.impE (fun d q => by
  obtain ⟨r', e, q⟩ := q
  rw [e]; exact q) fun _ _ _ z => z)
theorem ss_par (h : Rs (f1 r) (fun d => Rs (f2 r) (fun e => N ((r.set i (some d)).set j (some e))) (E r)) (E r)) : Ss (parF i j f1 f2 r) N R B C E := ss_lift (rs_cons (h.impE (fun d q => rs_cons (q.impE (fun e q => rs_nil q) fun _ _ _ z => z)) fun _ _ _ z => z))
theorem ss_aug {g : D → D → Res D} (h : Rs (dVar i r) (fun x => Rs (f r) (fun y => Rs (g x y) (fun z => N (r.set i (some z))) (E r)) (E r)) (E r)) : Ss (augF i g f r) N R B C E := ss_lift (h.impE (fun x q => ss_lift (q.impE (fun y q => ss_lift q) fun _ _ _ z => z)) fun _ _ _ z => z)
theorem rs_ints {g : Int → Int → Int} {Q : D → Prop} {E : Str → List Str → List D → Prop} {i j : Int} (q : Q (.int (g i j))) : Rs (intsD g (.int i) (.int j)) Q E := q
theorem ss_raise {n : Str} {ns : List Str} {rev : Bool} (h : Rs (fs r) (fun ds => ds.length = ns.length ∧ E r n ns (if rev then ds.reverse else ds)) (E r)) : Ss (raiF n ns rev fs r) N R B C E := ss_lift (h.impE (fun ds q => by
  rw [if_pos q.1]; exact q.2) fun _ _ _ z => z)
theorem ss_fst {n fl : Str} {ns : List Str} {vs : List D} (h : Rs (f r) (fun d => r[i]? = some (some (.obj n ns vs)) ∧ ns.length < 1000 ∧ N (r.set i (some (.obj n (putN fl d ns vs).1 (putN fl d ns vs).2)))) (E r)) : Ss (fstF i n fl f r) N R B C E := ss_lift (h.impE (fun d q => by
  rw [q.1]
  show Ss (if n = n ∧ ns.length < 1000 then _ else _) N R B C E
  rw [if_pos ⟨rfl, q.2.1⟩]; exact q.2.2) fun _ _ _ z => z)
theorem ss_cut {N' : Rho → Prop} {o : SR} (M : Rho → Prop) (h : Ss o M R B C E) (k : ∀ r, M r → N' r) : Ss o N' R B C E := h.imp k (fun _ z => z) (fun _ z => z) (fun _ z => z) fun _ _ _ _ z => z
theorem ss_loop {tg : D → Rho → Res Rho} (I : Nat → Rho → Prop) : ∀ (ds : List D) (k : Nat) (r : Rho), I k r →
    (∀ i d r, ds[i]? = some d → I (k + i) r → ∃ r1, tg d r = .ok r1 ∧ Ss (F r1) (I (k + i + 1)) R N (I (k + i + 1)) E) → (∀ r, I (k + ds.length) r → N r) → Ss (loopF tg F ds r) N R B C E
  | [], k, r, h0, _, he => he r h0
  | d :: ds, k, r, h0, hs, he => by
    obtain ⟨r1, e1, h1⟩ := hs 0 d r rfl h0
    have go : ∀ r2, I (k + 1) r2 → Ss (loopF tg F ds r2) N R B C E := fun r2 h2 => ss_loop I ds (k + 1) r2 h2 (fun i d r h hi => by
      have z := hs (i + 1) d r (by simpa using h) (by rw [show k + (i + 1) = k + 1 + i from by omega]; exact hi)
      rw [show k + (i + 1) = k + 1 + i from by omega] at z
      exact z) fun r h => he r (by rw [List.length_cons, show k + (ds.length + 1) = k + 1 + ds.length from by omega]; exact h)
    rw [loopF, e1]
    dsimp only
    cases e : F r1 with
    | nx r2 => rw [e] at h1; exact go r2 h1
    | ct r2 => rw [e] at h1; exact go r2 h1
    | bk r2 => rw [e] at h1; exact h1
    | rt d => rw [e] at h1; exact h1
    | er r n ns vs => rw [e] at h1; exact h1
    | bad => rw [e] at h1; exact h1
/-- a for, by an invariant at each number of items -/
theorem ss_for {its : Rho → Res (List D)} {tg : D → Rho → Res Rho} (I : Nat → Rho → Prop) (h : Rs (its r) (fun ds => I 0 r ∧ (∀ i d r, ds[i]? = some d → I i r → ∃ r1, tg d r = .ok r1 ∧ Ss (F r1) (I (i + 1)) R N (I (i + 1)) E) ∧ ∀ r, I ds.length r → N r) (E r)) : Ss (forF its tg F r) N R B C E :=
  ss_lift (h.impE (fun ds q => ss_loop I ds 0 r q.1 (fun i d r h1 h2 => by
    have z := q.2.1 i d r h1 (by rw [Nat.zero_add] at h2; exact h2)
    rw [Nat.zero_add]; exact z) fun r h => q.2.2 r (by rw [Nat.zero_add] at h; exact h)) fun _ _ _ z => z)
theorem rngL_get {a : Int} {n i : Nat} {d : D} (h : (rngL a n)[i]? = some d) : i < n ∧ d = .int (a + (i : Int)) := by
  unfold rngL at h
  rw [List.getElem?_map] at h
  by_cases hi : i < n
  · rw [List.getElem?_range hi] at h
    cases h
    exact ⟨hi, rfl⟩
  · rw [List.getElem?_eq_none (by simp; omega)] at h
    cases h
theorem rngL_len (a : Int) (n : Nat) : (rngL a n).length = n := by unfold rngL; simp
/-- for k in range(n) -/
theorem ss_rng {m : Nat} (n : Nat) (I : Nat → Rho → Prop) (h : Rs (f r) (fun d => d = .int (n : Int)) (E r)) (hn : n < 4611686018427387904) (h0 : I 0 r) (hs : ∀ i r, i < n → I i r → Ss (F (r.set m (some (.int (i : Int))))) (I (i + 1)) R N (I (i + 1)) E) (he : ∀ r, I n r → N r) : Ss (forF (dIts rng1 (dCons f dNil)) (tgN m) F r) N R B C E :=
  ss_for I (rs_its (rs_cons (h.impE (fun d q => by
    subst q
    refine rs_nil (rs_rng1 hn ⟨h0, fun i d r h1 h2 => ?_, fun r h => he r (by rw [rngL_len] at h; exact h)⟩)
    obtain ⟨h3, rfl⟩ := rngL_get h1
    exact ⟨_, rfl, by rw [Int.zero_add]; exact hs i r h3 h2⟩) fun _ _ _ z => z)))
/-- for k in range(a, n) -/
theorem ss_rng2 {m : Nat} (a n : Nat) (I : Nat → Rho → Prop) (h1 : Rs (f1 r) (fun d => d = .int (a : Int)) (E r)) (h2 : Rs (f2 r) (fun d => d = .int (n : Int)) (E r)) (ha : a < 4611686018427387904) (hn : n < 4611686018427387904) (h0 : I 0 r) (hs : ∀ i r, a + i < n → I i r → Ss (F (r.set m (some (.int ((a + i : Nat) : Int))))) (I (i + 1)) R N (I (i + 1)) E) (he : ∀ r, I (n - a) r → N r) : Ss (forF (dIts rng2 (dCons f1 (dCons f2 dNil))) (tgN m) F r) N R B C E :=
  ss_for I (rs_its (rs_cons (h1.impE (fun d q => by
    subst q
    refine rs_cons (h2.impE (fun d q => ?_) fun _ _ _ z => z)
    subst q
    have e : ((n : Int) - (a : Int)).toNat = n - a := by omega
    refine rs_nil (rs_rng2 (by omega) ⟨h0, fun i d r h1 h2 => ?_, fun r h => he r (by rw [rngL_len, e] at h; exact h)⟩)
    obtain ⟨h3, rfl⟩ := rngL_get h1
    rw [e] at h3
    refine ⟨_, rfl, ?_⟩
    have := hs i r (by omega) h2
    rw [Int.natCast_add] at this
    exact this) fun _ _ _ z => z)))
/-- for x in xs -/
theorem ss_each {α : Type} {m : Nat} (g : α → D) (xs : List α) (I : Nat → Rho → Prop) (h : Rs (f r) (fun d => d = .lst (xs.map g)) (E r)) (h0 : I 0 r) (hs : ∀ i x r, xs[i]? = some x → I i r → Ss (F (r.set m (some (g x)))) (I (i + 1)) R N (I (i + 1)) E) (he : ∀ r, I xs.length r → N r) : Ss (forF (dIt itemsL f) (tgN m) F r) N R B C E :=
  ss_for I (rs_it (h.impE (fun d q => by
    subst q
    refine rs_itsL ⟨h0, fun i d r h1 h2 => ?_, fun r h => he r (by rw [List.length_map] at h; exact h)⟩
    rw [List.getElem?_map] at h1
    cases hx : xs[i]? with
    | none => rw [hx] at h1; cases h1
    | some x => rw [hx] at h1; cases h1; exact ⟨_, rfl, hs i x r hx h2⟩) fun _ _ _ z => z))
end
section
variable {Q : D → Prop} {E : Str → List Str → List D → Prop} {r : Rho} {f : Rho → Res D} {its : Rho → Res (List D)} {tg : D → Rho → Res Rho} {tt : Rho → Res Bool} {fe : Rho → Res D} {vs : List Nat}
theorem lc_mapX {α : Type} (c g : α → D) {rw : Rho} : ∀ xs : List α, (∀ x ∈ xs, ∃ r1, tg (c x) rw = .ok r1 ∧ tt r1 = .ok true ∧ Rs (fe r1) (fun e => e = g x) nE) → lcLoop tg tt fe rw (xs.map c) = .ok (xs.map g)
  | [], _ => rfl
  | x :: xs, h => by
    obtain ⟨r1, h1, h2, h3⟩ := h x (by simp)
    rw [List.map_cons, lcLoop, h1]
    dsimp only
    rw [h2]
    dsimp only
    rw [h3.eq]
    dsimp only
    rw [lc_mapX c g xs fun y hy => h y (by simp [hy])]
    rfl
theorem rs_lc {α : Type} (c g : α → D) (xs : List α) (hi : Rs (its r) (fun ds => ds = xs.map c) E) (hl : xs.length ≤ sizeLine) (hs : ∀ x ∈ xs, ∃ r1, tg (c x) (wipeR r vs) = .ok r1 ∧ tt r1 = .ok true ∧ Rs (fe r1) (fun e => e = g x) nE) (q : Q (.lst (xs.map g))) : Rs (dLc its tg tt fe vs r) Q E :=
  Rs.bind (hi.impE (fun ds e => by
    subst e
    refine rs_guard (by rw [List.length_map]; exact hl) ?_
    rw [lc_mapX c g xs hs]; exact q) fun _ _ _ z => z)
theorem rs_run {n : Nat} {F : Rho → SR} {as : List D} (h : Ss (F (startR n as)) (fun _ => Q .non) Q nR nR (fun _ => E)) : Rs (runF n false F as) Q E := by
  unfold runF
  cases e : F (startR n as) with
  | nx r => rw [e] at h; exact h
  | rt d => rw [e] at h; exact h
  | bk r => rw [e] at h; exact h.elim
  | ct r => rw [e] at h; exact h.elim
  | er r n ns vs => rw [e] at h; exact h
  | bad => rw [e] at h; exact h.elim
theorem rs_runT {n : Nat} {F : Rho → SR} {as : List D} (h : Ss (F (startR n as)) nR Q nR nR (fun _ => E)) : Rs (runF n true F as) Q E := by
  unfold runF
  cases e : F (startR n as) with
  | nx r => rw [e] at h; exact h.elim
  | rt d => rw [e] at h; exact h
  | bk r => rw [e] at h; exact h.elim
  | ct r => rw [e] at h; exact h.elim
  | er r n ns vs => rw [e] at h; exact h
  | bad => rw [e] at h; exact h.elim
theorem rs_runI {n : Nat} {cls : Str} {F : Rho → SR} {as : List D} (h : Ss (F (startI n cls as)) (fun r => ∃ d, r[0]? = some (some d) ∧ Q d) (fun _ => False) nR nR (fun _ => E)) : Rs (runI n cls F as) Q E := by
  unfold runI
  cases e : F (startI n cls as) with
  | nx r => rw [e] at h; obtain ⟨d, h1, h2⟩ := h; dsimp only; rw [h1]; exact h2
  | rt d => rw [e] at h; exact h.elim
  | bk r => rw [e] at h; exact h.elim
  | ct r => rw [e] at h; exact h.elim
  | er r n ns vs => rw [e] at h; exact h
  | bad => rw [e] at h; exact h.elim
/-- a try -/
theorem ss_try {isM : Str → Option Bool} {i : Nat} {Fb Fs : Rho → SR} {N B C : Rho → Prop} {R : D → Prop} {E : Rho → Str → List Str → List D → Prop} (h : Ss (Fb r) N R B C fun r' n ns vs => isM n = some true ∧ Ss (Fs (r'.set i (some (.obj n ns vs)))) (fun r => N (r.set i none)) R (fun r => B (r.set i none)) (fun r => C (r.set i none)) nE') : Ss (tryF isM i Fb Fs r) N R B C E := by
  unfold tryF
  cases e : Fb r with
  | nx r => rw [e] at h; exact h
  | rt d => rw [e] at h; exact h
  | bk r => rw [e] at h; exact h
  | ct r => rw [e] at h; exact h
  | bad => rw [e] at h; exact h
  | er r' n ns vs =>
    rw [e] at h
    obtain ⟨h1, h2⟩ := h
    dsimp only
    rw [h1]
    dsimp only
    cases e2 : Fs (r'.set i (some (.obj n ns vs))) with
    | nx r => rw [e2] at h2; exact h2
    | rt d => rw [e2] at h2; exact h2
    | bk r => rw [e2] at h2; exact h2
    | ct r => rw [e2] at h2; exact h2
    | bad => rw [e2] at h2; exact h2
    | er r n ns vs => rw [e2] at h2; exact h2.elim
end
end Dx
namespace Dx
open PySem L2
theorem sz5 : (100000 : Nat) ≤ sizeLine := by decide
theorem small_of {i : Int} (h : -1000000000000 < i) (h' : i < 1000000000000) : smallI i := by unfold smallI; omega
def Fit : List Int → List Int → Prop
  | [], [] => True
  | v :: vs, l :: ls => 0 ≤ v ∧ v < l ∧ Fit vs ls
  | _, _ => False
theorem Fit.cons {vs : List Int} {l : Int} {ls : List Int} (h : Fit vs (l :: ls)) : ∃ v us, vs = v :: us ∧ 0 ≤ v ∧ v < l ∧ Fit us ls := by
  cases vs with
  | nil => exact h.elim
  | cons v us => exact ⟨v, us, rfl, h⟩
theorem Fit.nil {vs : List Int} (h : Fit vs []) : vs = [] := by
  cases vs with
  | nil => rfl
  | cons v us => exact h.elim
theorem Fit.len : ∀ {vs ls : List Int}, Fit vs ls → vs.length = ls.length
  | [], [], _ => rfl
  | v :: vs, l :: ls, h => by simp [Fit.len h.2.2]
  | [], _ :: _, h => h.elim
  | _ :: _, [], h => h.elim
theorem Fit.snoc : ∀ {vs ls : List Int} {v l : Int}, Fit vs ls → 0 ≤ v → v < l → Fit (vs ++ [v]) (ls ++ [l])
  | [], [], v, l, _, h1, h2 => ⟨h1, h2, trivial⟩
  | a :: vs, b :: ls, v, l, h, h1, h2 => ⟨h.1, h.2.1, Fit.snoc h.2.2 h1 h2⟩
  | [], _ :: _, _, _, h, _, _ => h.elim
  | _ :: _, [], _, _, h, _, _ => h.elim
theorem Fit.get : ∀ {vs ls : List Int} {k : Nat} {l : Int}, Fit vs ls → ls[k]? = some l → ∃ v, vs[k]? = some v ∧ 0 ≤ v ∧ v < l
  | [], [], _, _, _, h => by simp at h
  | v :: vs, l :: ls, 0, l', h, e => by simp at e; subst e; exact ⟨v, by simp, h.1, h.2.1⟩
  | v :: vs, l :: ls, k + 1, l', h, e => by
    obtain ⟨w, h1, h2⟩ := Fit.get (k := k) h.2.2 (by simpa using e)
    exact ⟨w, by simpa using h1, h2⟩
  | [], _ :: _, _, _, h, _ => h.elim
  | _ :: _, [], _, _, h, _ => h.elim
abbrev iL (ns : List Int) : D := .lst (ns.map D.int)
theorem take_snoc {α : Type} {xs : List α} {i : Nat} {x : α} (h : xs[i]? = some x) : xs.take (i + 1) = xs.take i ++ [x] := by
  rw [List.take_add_one, h]; rfl
end Dx
end S_DxM
section S_DxN
set_option Elab.async false
set_option linter.all false
set_option maxRecDepth 100000
namespace Dx
open PySem L2
def endB (a b : List Nat) : Bool := decide (b.length ≤ a.length) && decide (a.drop (a.length - b.length) = b)
def startB (a b : List Nat) : Bool := decide (b.length ≤ a.length) && decide (a.take b.length = b)
theorem beq_dec (a b : List Nat) : (a == b) = decide (a = b) := by
  by_cases h : a = b
  · subst h; simp
  · simp [h]
theorem end_ST (a b : List Nat) : Txt.endswith (Sg a) (Sg b) = endB a b := by
  unfold Txt.endswith endB
  rw [PySem.StrLaws.subAt_eq, ST_len, ST_len, Nat.zero_add]
  show (decide (b.length ≤ a.length) && ((a.drop (a.length - b.length)).take b.length == b)) = _
  by_cases h : b.length ≤ a.length
  · rw [List.take_of_length_le (by rw [List.length_drop]; omega), beq_dec]
  · rw [decide_eq_false h]; rfl
theorem start_ST (a b : List Nat) : Txt.startswith (Sg a) (Sg b) = startB a b := by
  unfold Txt.startswith startB
  rw [PySem.StrLaws.subAt_eq, ST_len, ST_len, Nat.zero_add]
  show (decide (b.length ≤ a.length) && ((a.drop 0).take b.length == b)) = _
  rw [List.drop_zero, beq_dec]
/-- split at one sign -/
abbrev spc (c : Nat) (a : List Nat) : List (List Nat) := TL.spl [c] 0 [] a
theorem split_ST (a : List Nat) (c : Nat) (hc : c < 256) : Txt.split (Sg a) (Sg [c]) = (spc c a).map Sg := by
  refine TL.map_tl_inj ?_
  rw [TL.split_spl _ _ (by show [c] ≠ []; simp) (TL.kind_ok (by show #[c].all _ = true; simp [hc])), List.map_map]
  show spc c a = _
  rw [show TL.tl ∘ Sg = id from rfl, List.map_id]
section
variable {Q : D → Prop} {E : Str → List Str → List D → Prop} {a b : List Nat}
theorem rs_end (q : Q (.bl (endB a b))) : Rs (endD (.str (Sg a)) (.str (Sg b))) Q E := by
  show Q (.bl (Txt.endswith (Sg a) (Sg b)))
  rw [end_ST]; exact q
theorem rs_start (q : Q (.bl (startB a b))) : Rs (startD (.str (Sg a)) (.str (Sg b))) Q E := by
  show Q (.bl (Txt.startswith (Sg a) (Sg b)))
  rw [start_ST]; exact q
theorem rs_split {c : Nat} (h : c < 256 ∧ a.length + 2 ≤ sizeLine) (q : Q (.lst ((spc c a).map fun l => .str (Sg l)))) : Rs (splitD (.str (Sg a)) (.str (Sg [c]))) Q E := by
  refine rs_guard ⟨rfl, by rw [ST_len]; exact h.2⟩ ?_
  show Q (.lst (strsD (Txt.split (Sg a) (Sg [c]))))
  rw [split_ST a c h.1]
  unfold strsD
  rw [List.map_map]; exact q
end
section
variable {Q : D → Prop} {E : Str → List Str → List D → Prop}
theorem rs_isi_non_bool  (q : Q (.bl false)) : Rs (isiD "bool" .non) Q E := rs_isi rfl (by decide +kernel) q
theorem rs_isi_non_int  (q : Q (.bl false)) : Rs (isiD "int" .non) Q E := rs_isi rfl (by decide +kernel) q
theorem rs_isi_non_str  (q : Q (.bl false)) : Rs (isiD "str" .non) Q E := rs_isi rfl (by decide +kernel) q
theorem rs_isi_non_tuple  (q : Q (.bl false)) : Rs (isiD "tuple" .non) Q E := rs_isi rfl (by decide +kernel) q
theorem rs_isi_non_list  (q : Q (.bl false)) : Rs (isiD "list" .non) Q E := rs_isi rfl (by decide +kernel) q
theorem rs_isi_bl_bool {x : Bool} (q : Q (.bl true)) : Rs (isiD "bool" (.bl x)) Q E := rs_isi rfl (by decide +kernel) q
theorem rs_isi_bl_int {x : Bool} (q : Q (.bl true)) : Rs (isiD "int" (.bl x)) Q E := rs_isi rfl (by decide +kernel) q
theorem rs_isi_bl_str {x : Bool} (q : Q (.bl false)) : Rs (isiD "str" (.bl x)) Q E := rs_isi rfl (by decide +kernel) q
theorem rs_isi_bl_tuple {x : Bool} (q : Q (.bl false)) : Rs (isiD "tuple" (.bl x)) Q E := rs_isi rfl (by decide +kernel) q
theorem rs_isi_bl_list {x : Bool} (q : Q (.bl false)) : Rs (isiD "list" (.bl x)) Q E := rs_isi rfl (by decide +kernel) q
theorem rs_isi_int_bool {x : Int} (q : Q (.bl false)) : Rs (isiD "bool" (.int x)) Q E := rs_isi rfl (by decide +kernel) q
theorem rs_isi_int_int {x : Int} (q : Q (.bl true)) : Rs (isiD "int" (.int x)) Q E := rs_isi rfl (by decide +kernel) q
theorem rs_isi_int_str {x : Int} (q : Q (.bl false)) : Rs (isiD "str" (.int x)) Q E := rs_isi rfl (by decide +kernel) q
theorem rs_isi_int_tuple {x : Int} (q : Q (.bl false)) : Rs (isiD "tuple" (.int x)) Q E := rs_isi rfl (by decide +kernel) q
theorem rs_isi_int_list {x : Int} (q : Q (.bl false)) : Rs (isiD "list" (.int x)) Q E := rs_isi rfl (by decide +kernel) q
theorem rs_isi_str_bool {x : Str} (q : Q (.bl false)) : Rs (isiD "bool" (.str x)) Q E := rs_isi rfl (by decide +kernel) q
theorem rs_isi_str_int {x : Str} (q : Q (.bl false)) : Rs (isiD "int" (.str x)) Q E := rs_isi rfl (by decide +kernel) q
theorem rs_isi_str_str {x : Str} (q : Q (.bl true)) : Rs (isiD "str" (.str x)) Q E := rs_isi rfl (by decide +kernel) q
theorem rs_isi_str_tuple {x : Str} (q : Q (.bl false)) : Rs (isiD "tuple" (.str x)) Q E := rs_isi rfl (by decide +kernel) q
theorem rs_isi_str_list {x : Str} (q : Q (.bl false)) : Rs (isiD "list" (.str x)) Q E := rs_isi rfl (by decide +kernel) q
theorem rs_isi_lst_bool {x : List D} (q : Q (.bl false)) : Rs (isiD "bool" (.lst x)) Q E := rs_isi rfl (by decide +kernel) q
theorem rs_isi_lst_int {x : List D} (q : Q (.bl false)) : Rs (isiD "int" (.lst x)) Q E := rs_isi rfl (by decide +kernel) q
theorem rs_isi_lst_str {x : List D} (q : Q (.bl false)) : Rs (isiD "str" (.lst x)) Q E := rs_isi rfl (by decide +kernel) q
theorem rs_isi_lst_tuple {x : List D} (q : Q (.bl false)) : Rs (isiD "tuple" (.lst x)) Q E := rs_isi rfl (by decide +kernel) q
theorem rs_isi_lst_list {x : List D} (q : Q (.bl true)) : Rs (isiD "list" (.lst x)) Q E := rs_isi rfl (by decide +kernel) q
theorem rs_isi_tup_bool {x : List D} (q : Q (.bl false)) : Rs (isiD "bool" (.tup x)) Q E := rs_isi rfl (by decide +kernel) q
theorem rs_isi_tup_int {x : List D} (q : Q (.bl false)) : Rs (isiD "int" (.tup x)) Q E := rs_isi rfl (by decide +kernel) q
theorem rs_isi_tup_str {x : List D} (q : Q (.bl false)) : Rs (isiD "str" (.tup x)) Q E := rs_isi rfl (by decide +kernel) q
theorem rs_isi_tup_tuple {x : List D} (q : Q (.bl true)) : Rs (isiD "tuple" (.tup x)) Q E := rs_isi rfl (by decide +kernel) q
theorem rs_isi_tup_list {x : List D} (q : Q (.bl false)) : Rs (isiD "list" (.tup x)) Q E := rs_isi rfl (by decide +kernel) q
end
theorem cut_take {α : Type} (a : List α) (k : Nat) : cutL a none (some (k : Int)) = a.take k := by
  unfold cutL
  rw [HT.sIx_none, HT.sIx_nat, List.drop_zero, Nat.sub_zero]
  by_cases h : k ≤ a.length
  · rw [Nat.min_eq_left h]
  · rw [Nat.min_eq_right (by omega), List.take_length, List.take_of_length_le (by omega)]
theorem cut_drop {α : Type} (a : List α) (k : Nat) : cutL a (some (k : Int)) none = a.drop k := by
  unfold cutL
  rw [HT.sIx_none, HT.sIx_nat]
  by_cases h : k ≤ a.length
  · rw [Nat.min_eq_left h, List.take_of_length_le (by rw [List.length_drop]; omega)]
  · rw [Nat.min_eq_right (by omega), Nat.sub_self, List.take_zero, List.drop_of_length_le (by omega)]
theorem cut_mid {α : Type} (a : List α) (j k : Nat) : cutL a (some (j : Int)) (some (k : Int)) = (a.take k).drop j := by
  unfold cutL
  rw [HT.sIx_nat, HT.sIx_nat, List.drop_take]
  by_cases h2 : j ≤ a.length
  · rw [Nat.min_eq_left h2]
    by_cases h : k ≤ a.length
    · rw [Nat.min_eq_left h]
    · rw [Nat.min_eq_right (by omega), List.take_of_length_le (by rw [List.length_drop]; omega), List.take_of_length_le (by rw [List.length_drop]; omega)]
  · rw [List.drop_of_length_le (show a.length ≤ j by omega), List.drop_of_length_le (by omega)]
    simp
/-- a[:-k] -/
theorem cut_back {α : Type} (a : List α) (k : Nat) (hk : 0 < k) : cutL a none (some (-(k : Int))) = a.take (a.length - k) := by
  unfold cutL
  have e : HT.sIx a.length a.length (some (-(k : Int))) = a.length - k := by
    show (if -(k : Int) < 0 then (-(k : Int) + (a.length : Int)).toNat else _) = _
    rw [if_pos (by omega)]; omega
  rw [e, HT.sIx_none, List.drop_zero, Nat.sub_zero]
end Dx
end S_DxN
section S_DxQ
set_option Elab.async false
set_option linter.all false
set_option maxRecDepth 100000
namespace Dx
open PySem L2
section
variable {Q : D → Prop} {E : Str → List Str → List D → Prop} {r : Rho} {f f1 : Rho → Res D} {fs : Rho → Res (List D)} {n fl gl : Str} {ns : List Str} {vs ds es : List D} {F : List D → Res D} {x d : D}
theorem rs_star {Q : List D → Prop} (h : Rs (f r) (fun d => Rs (items d) (fun xs => Rs (fs r) (fun ys => Q (xs ++ ys)) E) E) E) : Rs (dStar f fs r) Q E := Rs.bind (h.impE (fun a q => Rs.bind (q.impE (fun _ q => Rs.bind q) fun _ _ _ z => z)) fun _ _ _ z => z)
theorem rs_itemsL {Q : List D → Prop} (q : Q ds) : Rs (items (.lst ds)) Q E := q
theorem rs_itemsT {Q : List D → Prop} (q : Q ds) : Rs (items (.tup ds)) Q E := q
theorem rs_zipL {Q : List D → Prop} (q : Q (pairs ds es)) : Rs (zipL [.lst ds, .lst es]) Q E := q
theorem rs_zipS {a b : List Nat} {Q : List D → Prop} (q : Q (pairs (a.map fun n => .str (Sg [n])) (b.map fun n => .str (Sg [n])))) : Rs (zipS [.str (Sg a), .str (Sg b)]) Q E := q
theorem isCls_self : isCls n (.obj n ns vs) = true := by unfold isCls; exact decide_eq_true rfl
theorem rs_lenO {i : Int} (hF : F [.obj n ns vs] = .ok (.int i)) (hi : 0 ≤ i ∧ i < 2 ^ 63) (q : Q (.int i)) : Rs (g1 (lenO n F) [.obj n ns vs]) Q E := by
  show Rs (lenO n F (.obj n ns vs)) Q E
  unfold lenO
  rw [if_pos isCls_self, hF]
  exact rs_guard hi q
theorem rs_listO (h1 : lookF ns vs fl = some (.lst ds)) (h2 : lookF ns vs gl = some (.lst es)) (h3 : ds.length ≤ sizeLine) (h4 : es.length ≤ sizeLine) (q : Q (.lst ds)) : Rs (g1 (listO n fl gl) [.obj n ns vs]) Q E := by
  show Rs (listO n fl gl (.obj n ns vs)) Q E
  unfold listO
  dsimp only
  rw [if_pos rfl, h1, h2]
  exact rs_guard ⟨h3, h4⟩ q
end
end Dx
end S_DxQ
section S_DxR
set_option Elab.async false
set_option linter.all false
set_option maxRecDepth 100000
set_option maxHeartbeats 2000000
namespace Dx
open PySem L2 ItX
open PyProof.Rows hiding St
section
variable {X : Cx} {c : Cf} {L G G' : List Ow} {f f1 f2 : Rho → Res D} {e o a b : Expr} {es : List Expr} {pos apos p : Pos} {fs : Rho → Res (List D)} {n : Str} {C : Addr} {F : List D → Res D} {rm : Bool} {k : Nat} {fa : Addr} {fd : FuncData} {ps : List Str}
def dProp (n : Str) (F : List D → Res D) (f : Rho → Res D) : Rho → Res D := fun r => (f r).bind fun x => if isCls n x = true then (match F [x] with
  | .ok a => .ok a
  | _ => .bad) else .bad
theorem de_prop {fl : Str} {pa : Addr} (hcn : c.cm n = some C) (cl : Cls X.K C) (hp : PropOf X.K C fl pa fa) (F1 : FnOk X.prog X.w X.K X.mg X.base (L2.CX X.prog X.w) k fa fd ps (spD c.K c.cm [true] rm F)) (hr : Room (k + 1) X.A) (hb : L2.Binds X.K fd ps []) (he : PE X e (tR c G f))
    (hab : attributeBase e fl X.env (eval e X.env) = eval e X.env := by rfl) : PE X (.Attribute e fl pos) (rd c G (dProp n F f) (mR c rm)) :=
  pe_imp (pe_prop (dvs := []) (ds := []) (E := noX) he cl hp F1 hr hb .nil (fun _ _ _ _ _ _ _ h => (cx_never h).elim) hab) fun σ H Q ⟨S0, H0, S, r, ok, p⟩ => rd_seq ok p fun x v S1 H1 w1 o1 m1 p1 => by
    split at p1
    · rename_i hc
      obtain ⟨a, dx, gs, rfl, h2⟩ := of_isCls o1.ex hcn hc m1
      split at p1
      · rename_i z hF
        have p2 := p1.anti w1.h
        exact ⟨a, dx, gs, rfl, h2, calm_sp (ds := [x]) o1.ex ⟨m1, trivial⟩ hF fun S' H' b w hb => p2 S' H' w b hb⟩
      · exact p1.elim
    · exact p1.elim
def keyD : D → Option Key
  | .int i => some (.inl i)
  | .str z => some (.inr z)
  | _ => none
def keyOf : Key → D
  | .inl i => .int i
  | .inr z => .str z
def getK {κ : Type} [DecidableEq κ] : List κ → List D → κ → Option D
  | k :: ks, v :: vs, x => if k = x then some v else getK ks vs x
  | _, _, _ => none
def putV {κ : Type} [DecidableEq κ] (ks : List κ) (vs : List D) (x : κ) (d : D) : List κ × List D := if (ks.any fun k => decide (k = x)) = true then (ks, List.zipWith (fun k v => if k = x then d else v) ks vs) else (ks ++ [x], vs ++ [d])
/-- {} -/
def dD0 : Rho → Res D := fun _ => .ok (.dk [] [])
/-- k in d -/
def inK (neg : Bool) : D → D → Res D
  | k, .dk ks vs => match keyD k with
    | some x => .ok (.bl (if neg then !(getK ks vs x).isSome else (getK ks vs x).isSome))
    | none => .bad
  | _, _ => .bad
/-- list(d), len(d) -/
def listK : D → Res D
  | .dk ks _ => .ok (.lst (ks.map keyOf))
  | _ => .bad
def lenK : D → Res D
  | .dk ks _ => .ok (.int ks.length)
  | .dt ks _ => .ok (.int ks.length)
  | _ => .bad
/-- d[k] = v, d an own dict -/
def ownK (i : Nat) (r : Rho) : Res (List Key × List D) := match r[i]? with
  | some (some (.dk ks vs)) => .ok (ks, vs)
  | _ => .bad
def asK (d : D) : Res Key := match keyD d with
  | some k => .ok k
  | none => .bad
noncomputable def putF (i : Nat) (fk f : Rho → Res D) : Rho → SR := fun r => liftS r (f r) fun d => liftS r (ownK i r) fun o => liftS r (fk r) fun k => liftS r (asK k) fun x => guardS (o.1.length < sizeLine) (.nx (r.set i (some (.dk (putV o.1 o.2 x d).1 (putV o.1 o.2 x d).2))))
end
end Dx
end S_DxR
section S_DxI
set_option Elab.async false
set_option linter.all false
set_option maxRecDepth 100000
set_option maxHeartbeats 2000000
namespace Dx
open PySem L2 ItX PyProof.Rows
section
variable {X : Cx} {c : Cf} {L G G' : List Ow} {a b e : Expr} {pos : Pos} {f f1 f2 : Rho → Res D} {k : Nat}
def keysD : List D → Option (List Key)
  | [] => some []
  | d :: ds => match keyD d, keysD ds with
    | some k, some ks => some (k :: ks)
    | _, _ => none
def keyT : D → Option (List Key)
  | .tup ds => keysD ds
  | _ => none
def tupOf (ks : List Key) : D := .tup (ks.map keyOf)
/-- a tuple of the heap becomes one that stays -/
theorem Fwd.tup {S H : Hp} (e : Ex S H) {q : Addr} {xs : List V} (h : H q = some (.tup xs)) : ∃ S', Fwd S H S' H ∧ S' q = some (.tup xs) := by
  cases hs : S q with
  | some o =>
    have := e _ _ hs
    rw [h] at this
    cases this
    exact ⟨S, Fwd.refl e, hs⟩
  | none =>
    refine ⟨upd S q (.tup xs), ⟨Ex.new hs, Ex.refl, fun a u ha => ?_, fun a u ha m => ?_⟩, upd_same⟩
    · by_cases hh : a = q
      · subst hh; rw [upd_same] at ha; rw [h]; exact ha
      · rw [upd_ne hh] at ha; exact e a u ha
    · by_cases hh : a = q
      · subst hh; exact .inr ⟨xs, h⟩
      · rw [upd_ne hh, m] at ha; cases ha
def itemsK : D → Res (List D)
  | .dt ks _ => .ok (ks.map tupOf)
  | .dk ks _ => .ok (ks.map keyOf)
  | _ => .bad
variable {tg : Expr}
end
end Dx
end S_DxI
section S_DxJ
set_option Elab.async false
set_option linter.all false
set_option maxRecDepth 100000
set_option maxHeartbeats 2000000
namespace Dx
open PySem L2 ItX PyProof.Rows
/-- a def of the text, whatever its defaults are -/
structure FunE (K : PySem.W.Frag) (x qual : Str) (st : Stmt) (f : Addr) (fd : FuncData) : Prop where
  ex : ∃ (oc : Value) (od : Option Addr) (dV kV doc pm : Value) (an : Option Addr) (cdv ct : Value) (osl : Array (Option Value)),
    fd = PySem.W.fnOf x qual (defArgs st) (defBody st) (defScope st) dV kV doc pm an cdv ct ∧ K.lookup f = some ⟨oc, od, .func fd, osl⟩ ∧ PySem.W.codeIn K cdv qual = true
  kp : PySem.W.keepIn K (.ref f) = true
section
variable {P : Program} {w : World} {K : PySem.W.Frag} {mg : Str → Option Value} {base : Heap} {cm : CM}
theorem FunE.okX {x qual : Str} {st : Stmt} {f : Addr} {fd : FuncData} {N ps : List Str} {k : Nat} {sp : Sp} (F : FunE K x qual st f fd) (S : FnScope N ps (defScope st)) (len : ∀ vs H Q E, sp vs H Q E → vs.length = ps.length)
    (hbody : ∀ (cdv : Value) (A : Around) (outer : List Env) (s : Shared) (H : Hp) (vs : List V) (Q : VK) (E : XK), Room k (A.deeper (envOfC qual (defScope st) s.heap.objs.size f cdv)) → sp vs H Q E →
      ∃ t, PSs (cxOf (L2.CX P w) P w K mg base N qual (defScope st) f cdv A outer s H E) (defBody st) t ∧ t { nx := fun _ H' => Q .non H', rt := Q } (start N vs) H) : FnOk P w K mg base (L2.CX P w) (k + 1) f fd ps sp := by
  obtain ⟨oc, od, dV, kV, doc, pm, an, cdv, ct, osl, rfl, lk, hcd⟩ := F.ex
  exact fn_of lk hcd S len fun A outer s H vs Q E hr hsp => hbody cdv A outer s H vs Q E hr hsp
theorem funE_mk {x qual : Str} {st : Stmt} {f : Addr} {oc : Value} {od an : Option Addr} {osl : Array (Option Value)} {dV kV doc pm cdv ct : Value} (l : K.lookup f = some ⟨oc, od, .func (PySem.W.fnOf x qual (defArgs st) (defBody st) (defScope st) dV kV doc pm an cdv ct), osl⟩)
    (c : PySem.W.codeIn K cdv qual = true) (k : PySem.W.keepIn K (.ref f) = true) : FunE K x qual st f (PySem.W.fnOf x qual (defArgs st) (defBody st) (defScope st) dV kV doc pm an cdv ct) :=
  ⟨⟨oc, od, dV, kV, doc, pm, an, cdv, ct, osl, rfl, l, c⟩, k⟩
/-- n values are written, the defaults behind the first j fill up -/
theorem binds_d {fd : FuncData} {T : Addr} {o : Obj} {its : List Value} {m : Nat} {ps : List Str} (n j : Nat) (lT : K.lookup T = some o) (oT : o.data = .seq its.toArray m) (hm : n + (its.length - j) = ps.length)
    (h : ∀ us : List Value, us.length = n → ∃ k, bindArgs fd ⟨us, []⟩ = seqItems? (.ref T) >>= k ∧ k (some its.toArray) = pure (ps.zip (us ++ its.drop j))) : L2.Binds K fd ps (its.drop j) := fun s us X hl => by
  obtain ⟨k, e1, e2⟩ := h us (by rw [List.length_append, List.length_drop] at hl; omega)
  refine BindsTo.of_looks fun M => ?_
  rw [e1]
  exact looks_items X lT oT (.of_pure e2)
/-- THE RULE for an __init__ with defaults -/
theorem dokIE {x qual : Str} {st : Stmt} {f C : Addr} {fd : FuncData} {N ps : List Str} {k : Nat} {ms : List Bool} {n : Str} {Fb : Rho → SR} (F : FunE K x qual st f fd) (S : FnScope N ps (defScope st)) (hcn : cm n = some C) (hm : ms.length + 1 = ps.length) (hn : ps.length ≤ N.length)
    {G' : Addr → List Ow} (hG : ∀ a, kd (G' a) 0 = .i a)
    (hb : ∀ (cdv : Value) (A : Around) (outer : List Env) (s : Shared) (H : Hp) (E : XK) (a : Addr), Room k (A.deeper (PyProof.Rows.envOfC qual (defScope st) s.heap.objs.size f cdv)) →
      PSs (cxOf (L2.CX P w) P w K mg base N qual (defScope st) f cdv A outer s H E) (defBody st) (sD (cfE K cm false E) [] (GI a ms N.length) (G' a) Fb)) :
    FnOk P w K mg base (L2.CX P w) (k + 1) f fd ps (spI K cm C ms (runI N.length n Fb)) := by
  refine F.okX S (fun vs H Q E h => ?_) (fun cdv A outer s H vs Q E hr h => ?_)
  · obtain ⟨x, dx, H1, S, us, ds, rfl, _, _, _, _, _, m, _⟩ := h
    rw [List.length_cons, m.len.1, hm]
  · obtain ⟨x, dx, H1, S, us, ds, rfl, hx, hdx, hne, rfl, ex, m, q⟩ := h
    refine ⟨_, hb cdv A outer s _ E x hr, S, H1, S, startI N.length n ds, env_startI (c := cfE K cm false E) hcn ex (RpM.cf (c := ⟨K, cm, fun _ _ _ _ => False, none, true⟩) (c' := cfE K cm false E) rfl rfl m) (by omega) hx hdx hne, ?_⟩
    unfold runI at q
    cases hF : Fb (startI N.length n ds) with
    | rt d => rw [hF] at q; exact q.elim
    | nx r =>
      rw [hF] at q
      dsimp only at q
      intro σ' S' H' ok
      split at q
      · rename_i d hd
        obtain ⟨v, h1, h2⟩ := ok.slot 0 d hd
        rw [hG x] at h2
        obtain ⟨rfl, p, ho, e1, e2, e3, e4, e5⟩ := h2
        cases e1
        exact q S' H' ok.fwd ⟨ho, e3, e2, e5⟩
      · exact q.elim
    | er r n ns vs =>
      rw [hF] at q
      exact fun C dd σ' S' H' fs h1 fw _ h2 h3 h4 => q C dd S' H' fs h1 fw h2 h3 h4
    | bk r => rw [hF] at q; exact q.elim
    | ct r => rw [hF] at q; exact q.elim
    | bad => rw [hF] at q; exact q.elim
end
section
variable {X : Cx} {c : Cf} {L G G' : List Ow} {f f1 : Rho → Res D} {e o : Expr} {es : List Expr} {pos apos p : Pos}
variable {k : Nat} {fa : Addr} {fd : FuncData} {ps : List Str} {ms : List Bool} {rm : Bool} {F : List D → Res D}
/-- C(), the defaults fill up -/
theorem de_make0 {x : Str} {C : Addr} {dvs : List V} {us : List Value} {ds0 : List D} (M : Mk X.K C fa) (F1 : FnOk X.prog X.w X.K X.mg X.base (L2.CX X.prog X.w) k fa fd ps (spI c.K c.cm C ms F)) (tk : Takes X c.W) (hr : Room (k + 1) X.A) (hg : Gl X x) (hm : X.mg x = some (.ref C)) (hb : L2.Binds X.K fd ps us)
    (hd : Vals dvs us) (hv : ∀ S H, RpM c S H ms dvs ds0) (hdb : (x == ("__debug__" : Str)) = false := by decide) : PE X (.Call (.Name x p) [] [] pos) (tO c G (fun _ => F ds0)) :=
  pe_imp (pe_makeSD0 (dvs := dvs) (E := fun σ cls d H => c.W cls d σ H) M F1 hr hg hm hb hd (fun σ => passAt tk σ) hdb) fun σ H Q ⟨S0, H0, S, r, ok, q⟩ => fun x dx hx hdx hne => make_rd (fun _ _ _ h => h) ok.ex (hv S H) hx hdx hne q
/-- a borrowed list or tuple: a parameter's slot -/
def itemsX : D → Res (List D)
  | .lst ds => .ok ds
  | .fz ds => .ok ds
  | .kt ds => .ok ds
  | .tup ds => .ok ds
  | _ => .bad
variable {tg : Expr}
theorem pi_or {it : Expr} {t t' : TI} (h : PI X tg it t) (h' : PI X tg it t') : PI X tg it (fun σ H R => t σ H R ∨ t' σ H R) := ⟨fun pins s σ H R I q => q.elim (h.run pins s σ H R I) (h'.run pins s σ H R I)⟩
/-- the written () as a default -/
theorem kt_nil {K : PySem.W.Frag} {cm : CM} {E : Addr} {oc : Value} {od : Option Addr} {n : Nat} {sl : Array (Option Value)} (l : K.lookup E = some ⟨.type "tuple", od, .seq #[] n, sl⟩) (S : Hp) : Rp K cm S (.ref E) (.kt []) :=
  .kt (.inr ⟨_, #[], n, l, rfl, rfl, by rw [sizeLine_eq]; decide, .nil⟩) .nil
end
end Dx
end S_DxJ
section S_DxH
set_option Elab.async false
set_option linter.all false
set_option maxRecDepth 100000
set_option maxHeartbeats 4000000
namespace Dx
open PySem L2 PyProof.Rows Srt SrtO
abbrev T3 := Int × Int × Int
section
variable {prog : Program} {w : World} {A : Around} {E : Value → Shared → Prop} {s : Shared}
/-- v is a tuple of three ints in the heap -/
def IsTri (h : Heap) (v : Value) (k : T3) : Prop := ∃ a o t u v' n, v = .ref a ∧ h.get? a = some o ∧ o.cls = .type "tuple" ∧ o.data = .seq #[.int k.1 t, .int k.2.1 u, .int k.2.2 v'] n
theorem IsTri.keeps {h h' : Heap} {v : Value} {k : T3} (p : IsTri h v k) (kk : ∀ b o, h.get? b = some o → o.cls = .type "tuple" → h'.get? b = some o) : IsTri h' v k := by
  obtain ⟨a, o, t, u, z, n, e, ho, hc, hd⟩ := p
  exact ⟨a, o, t, u, z, n, e, kk _ _ ho hc, hc, hd⟩
end
end Dx
end S_DxH
section S_DxL
set_option Elab.async false
set_option linter.all false
set_option maxRecDepth 100000
set_option maxHeartbeats 4000000
namespace Dx
open PySem L2
section
variable {X : Cx} {c : Cf} {G G' G2 : List Ow} {S0 H0 S H S' H' : Hp} {σ : St} {r : Rho}
def isVB : Ow → Bool
  | .v => true
  | .b => true
  | _ => false
def noOwn (G : List Ow) : Prop := ∀ i, isVB (kd G i) = true
theorem noOwn_of {G : List Ow} (h : G.all isVB = true) : noOwn G := fun i => by
  unfold kd
  rw [List.getD_eq_getElem?_getD]
  cases e : G[i]? with
  | none => rfl
  | some k => exact List.all_eq_true.mp h k (List.mem_of_getElem? e)
/-- where nothing is own, only what stays counts -/
theorem EnvOk.jump (e : EnvOk c S0 H0 G S H σ r) (hno : noOwn G) (es : Ex S S') (fw : Fwd S0 H0 S' H') : EnvOk c S0 H0 G S' H' σ r := by
  refine ⟨fw, e.len, fun i d hd => ?_, fun i j d d' p hi hj ki kj si sj => e.sep i j d d' p hi hj ki kj si sj, [], ⟨.nil, fun a ha => (nomatch ha), fun i d p _ _ _ => (fun h => nomatch h), fun i k M P ki hi => ?_, fun i k ki hi => ?_⟩⟩
  · obtain ⟨v, h1, h2⟩ := e.slot i d hd
    refine ⟨v, h1, ?_⟩
    have := hno i
    cases k : kd G i with
    | v => rw [k] at h2; exact Rp.mono es h2
    | b => rw [k] at h2; exact RpB.mono h2 es Ex.refl
    | _ => rw [k] at this; cases this
  · have := hno i
    rw [ki] at this; cases this
  · have := hno i
    rw [ki] at this; cases this
def lc2Loop (t : D → Rho → Res Rho) (tt : Rho → Res Bool) (its1 : Rho → Res (List D)) (t1 : D → Rho → Res Rho) (tt1 : Rho → Res Bool) (fe : Rho → Res D) (vs1 : List Nat) (rw : Rho) : List D → Res (List D)
  | [] => .ok []
  | d :: ds => match t d rw with
    | .ok r1 => match tt r1 with
      | .ok true => match its1 r1 with
        | .ok ds1 => match lcLoop t1 tt1 fe (wipeR r1 vs1) ds1 with
          | .ok xs => match lc2Loop t tt its1 t1 tt1 fe vs1 rw ds with
            | .ok ys => .ok (xs ++ ys)
            | _ => .bad
          | _ => .bad
        | _ => .bad
      | .ok false => lc2Loop t tt its1 t1 tt1 fe vs1 rw ds
      | _ => .bad
    | _ => .bad
noncomputable def dLc2 (its : Rho → Res (List D)) (t : D → Rho → Res Rho) (tt : Rho → Res Bool) (its1 : Rho → Res (List D)) (t1 : D → Rho → Res Rho) (tt1 : Rho → Res Bool) (fe : Rho → Res D) (vs vs1 : List Nat) : Rho → Res D := fun r => (its r).bind fun ds => match lc2Loop t tt its1 t1 tt1 fe vs1 (wipeR r vs) ds with
  | .ok xs => guard (xs.length ≤ sizeLine) (.ok (.lst xs))
  | _ => .bad
theorem wipe2 {σ : St} {vs : List Nat} : L2.wipe (L2.wipe σ vs) vs = L2.wipe σ vs := by
  apply List.ext_getElem?
  intro k
  rw [wipe_get, wipe_get]
  split
  · cases σ[k]? <;> rfl
  · rfl
theorem lc2_rd {its : Rho → Res (List D)} {t : D → Rho → Res Rho} {tt : Rho → Res Bool} {its1 : Rho → Res (List D)} {t1 : D → Rho → Res Rho} {tt1 : Rho → Res Bool} {fe : Rho → Res D} {vs vs1 : List Nat} (hno : noOwn G') : ∀ σ H Q, tO c G (dLc2 its t tt its1 t1 tt1 fe vs vs1) σ H Q →
    tLc2 (iDl c G its) (gD c.calm G G' vs t) (tT c.calm G' tt) (iD c.calm G' its1) (gD c.calm G' G2 vs1 t1) (tT c.calm G2 tt1) (tV c.calm G2 fe) vs vs1 σ H Q := fun σ H Q ⟨S0, H0, S, r, ok, p⟩ => by
  refine ⟨S0, H0, S, r, ok, p.unbind.imp fun ds S1 H1 w1 p1 J gv Dl hD => ?_⟩
  obtain ⟨Gd, Y, wk, hG, hY⟩ := gv
  have ok1 := ok.go w1
  split at p1
  · rename_i res hres
    obtain ⟨hl, p1⟩ := p1.gd
    have okw := ok1.wiped vs
    have nS : S1 Dl = none := ok1.ex.nn hD
    refine ⟨fun i m H' => m = ds.length - i ∧ i ≤ ds.length ∧ ∃ S' acc accD rest, Fwd S1 H1 S' H' ∧ S' Dl = none ∧ H' Dl = some (.lst acc) ∧ RpA c.K c.cm S' acc accD ∧ lc2Loop t tt its1 t1 tt1 fe vs1 (wipeR r vs) (ds.drop i) = .ok rest ∧ accD ++ rest = res,
      ⟨ds.length, by omega, by omega, S1, [], [], res, Fwd.heap ok1.ex hD, nS, upd_same, .nil, by rw [List.drop_zero]; exact hres, rfl⟩, ?_⟩
    rintro i m H' ⟨rfl, hi, S', acc, accD, rest, fw, n1, h1, r1, hr, ha⟩
    have gd := hG S' H' fw.s fw.sub fw.h
    by_cases hlt : i < ds.length
    · refine .inr ⟨wk.goes i H' hlt gd, fun H'' => i + 1 ≤ ds.length ∧ ∃ S' acc accD rest, Fwd S1 H1 S' H'' ∧ S' Dl = none ∧ H'' Dl = some (.lst acc) ∧ RpA c.K c.cm S' acc accD ∧ lc2Loop t tt its1 t1 tt1 fe vs1 (wipeR r vs) (ds.drop (i + 1)) = .ok rest ∧ accD ++ rest = res,
        fun H'' z => ⟨ds.length - (i + 1), by omega, rfl, z.1, z.2⟩, fun x H2 y => ?_⟩
      obtain ⟨S2, d, fw2, hd, hx⟩ := hY i S' H' x H2 hlt fw.s fw.sub (wk.yields i H' x H2 hlt gd y)
      have hdrop : ds.drop i = d :: ds.drop (i + 1) := by
        rw [List.drop_eq_getElem_cons hlt]
        rw [List.getElem?_eq_getElem hlt] at hd
        cases hd; rfl
      rw [hdrop] at hr
      unfold lc2Loop at hr
      refine ⟨S0, H0, S2, wipeR r vs, d, okw.go (fw.trans fw2), hx, ?_⟩
      cases ht : t d (wipeR r vs) with
      | err _ _ _ => rw [ht] at hr; cases hr
      | bad => rw [ht] at hr; cases hr
      | ok r2 =>
        rw [ht] at hr
        dsimp only at hr
        intro σ3 z3 ok3
        have keepN : ∀ S4 H4, Fwd S' H' S4 H4 → S4 Dl = none := fun S4 H4 f4 => by
          cases q : S4 Dl with
          | none => rfl
          | some u => obtain ⟨_, z⟩ := (f4.new Dl u q n1).not h1; cases z
        refine ⟨z3.trans wipe2, S0, H0, S2, r2, ok3, ?_⟩
        cases htt : tt r2 with
        | err _ _ _ => rw [htt] at hr; cases hr
        | bad => rw [htt] at hr; cases hr
        | ok b =>
          rw [htt] at hr
          intro S4 H4 w4 b' hb
          cases hb
          have f4 := fw2.trans w4
          cases b with
          | false =>
            dsimp only at hr
            rw [if_neg (by decide)]
            exact ⟨hlt, S4, acc, accD, rest, fw.trans f4, keepN S4 H4 f4, f4.h _ _ h1, r1.mono f4.s, hr, ha⟩
          | true =>
            dsimp only at hr
            rw [if_pos rfl]
            have ok4 := ok3.go w4
            refine ⟨S0, H0, S4, r2, ok4, ?_⟩
            cases hit : its1 r2 with
            | err _ _ _ => rw [hit] at hr; cases hr
            | bad => rw [hit] at hr; cases hr
            | ok ds1 =>
              rw [hit] at hr
              dsimp only at hr
              cases hin : lcLoop t1 tt1 fe (wipeR r2 vs1) ds1 with
              | err _ _ _ => rw [hin] at hr; cases hr
              | bad => rw [hin] at hr; cases hr
              | ok xs1 =>
                rw [hin] at hr
                dsimp only at hr
                cases hout : lc2Loop t tt its1 t1 tt1 fe vs1 (wipeR r vs) (ds.drop (i + 1)) with
                | err _ _ _ => rw [hout] at hr; cases hr
                | bad => rw [hout] at hr; cases hr
                | ok ys =>
                  rw [hout] at hr
                  cases hr
                  intro S5 H5 w5 J1 gv1
                  have f5 := f4.trans w5
                  obtain ⟨Gd1, Y1, wk1, hG1, hY1⟩ := gv1
                  refine ⟨fun j k H' => k = ds1.length - j ∧ j ≤ ds1.length ∧ ∃ S' acc accD rest1, Fwd S1 H1 S' H' ∧ Ex S5 S' ∧ S' Dl = none ∧ H' Dl = some (.lst acc) ∧ RpA c.K c.cm S' acc accD ∧ lcLoop t1 tt1 fe (wipeR r2 vs1) (ds1.drop j) = .ok rest1 ∧ accD ++ (rest1 ++ ys) = res,
                    ⟨ds1.length, by omega, by omega, S5, acc, accD, xs1, fw.trans f5, Ex.refl, keepN S5 H5 f5, f5.h _ _ h1, r1.mono f5.s, by rw [List.drop_zero]; exact hin, ha⟩, ?_⟩
                  rintro j k H6 ⟨rfl, hj, S6, acc6, accD6, rest6, g1, g2, g3, g4, g5, g6, g7⟩
                  have e06 : Ex H0 H6 := ok1.fwd.h.trans g1.h
                  have gd1 := hG1 S6 H6 g2 g1.sub e06
                  by_cases hjl : j < ds1.length
                  · refine .inr ⟨wk1.goes j H6 hjl gd1, fun H' => j + 1 ≤ ds1.length ∧ ∃ S' acc accD rest1, Fwd S1 H1 S' H' ∧ Ex S5 S' ∧ S' Dl = none ∧ H' Dl = some (.lst acc) ∧ RpA c.K c.cm S' acc accD ∧ lcLoop t1 tt1 fe (wipeR r2 vs1) (ds1.drop (j + 1)) = .ok rest1 ∧ accD ++ (rest1 ++ ys) = res,
                      fun H' z => ⟨ds1.length - (j + 1), by omega, rfl, z.1, z.2⟩, fun x1 H7 y1 => ?_⟩
                    obtain ⟨S7, d1, fw7, hd1, hx1⟩ := hY1 j S6 H6 x1 H7 hjl g2 g1.sub (wk1.yields j H6 x1 H7 hjl gd1 y1)
                    have hdrop1 : ds1.drop j = d1 :: ds1.drop (j + 1) := by
                      rw [List.drop_eq_getElem_cons hjl]
                      rw [List.getElem?_eq_getElem hjl] at hd1
                      cases hd1; rfl
                    rw [hdrop1] at g6
                    unfold lcLoop at g6
                    have keep1 : ∀ S8 H8, Fwd S6 H6 S8 H8 → S8 Dl = none := fun S8 H8 f8 => by
                      cases q : S8 Dl with
                      | none => rfl
                      | some u => obtain ⟨_, z⟩ := (f8.new Dl u q g3).not g4; cases z
                    have ok7 : EnvOk c.calm S0 H0 G' S7 H7 σ3 r2 := EnvOk.jump ok4 hno ((w5.s.trans g2).trans fw7.s) (ok1.fwd.trans (g1.trans fw7))
                    refine ⟨S0, H0, S7, wipeR r2 vs1, d1, ok7.wiped vs1, hx1, ?_⟩
                    cases ht1 : t1 d1 (wipeR r2 vs1) with
                    | err _ _ _ => rw [ht1] at g6; cases g6
                    | bad => rw [ht1] at g6; cases g6
                    | ok r3 =>
                      rw [ht1] at g6
                      dsimp only at g6
                      intro σ4 z4 ok8
                      refine ⟨z4.trans wipe2, S0, H0, S7, r3, ok8, ?_⟩
                      cases htt1 : tt1 r3 with
                      | err _ _ _ => rw [htt1] at g6; cases g6
                      | bad => rw [htt1] at g6; cases g6
                      | ok b1 =>
                        rw [htt1] at g6
                        intro S8 H8 w8 b2 hb2
                        cases hb2
                        have f8 := fw7.trans w8
                        cases b1 with
                        | false =>
                          dsimp only at g6
                          rw [if_neg (by decide)]
                          exact ⟨hjl, S8, acc6, accD6, rest6, g1.trans f8, g2.trans f8.s, keep1 S8 H8 f8, f8.h _ _ g4, g5.mono f8.s, g6, g7⟩
                        | true =>
                          dsimp only at g6
                          rw [if_pos rfl]
                          refine ⟨S0, H0, S8, r3, ok8.go w8, ?_⟩
                          cases hfe : fe r3 with
                          | err _ _ _ => rw [hfe] at g6; cases g6
                          | bad => rw [hfe] at g6; cases g6
                          | ok x2 =>
                            rw [hfe] at g6
                            dsimp only at g6
                            cases hlc : lcLoop t1 tt1 fe (wipeR r2 vs1) (ds1.drop (j + 1)) with
                            | err _ _ _ => rw [hlc] at g6; cases g6
                            | bad => rw [hlc] at g6; cases g6
                            | ok xs2 =>
                              rw [hlc] at g6
                              cases g6
                              intro S9 H9 w9 y9 hy9
                              have f9 := f8.trans w9
                              refine ⟨acc6, f9.h _ _ g4, ?_, hjl, S9, acc6 ++ [y9], accD6 ++ [x2], xs2, (g1.trans f9).put hD (keep1 S9 H9 f9), g2.trans f9.s, keep1 S9 H9 f9, upd_same, (g5.mono f9.s).app (.one hy9), rfl, ?_⟩
                              · rw [g5.length]
                                have : accD6.length + 1 ≤ res.length := by rw [← g7]; simp only [List.length_append, List.length_cons]; omega
                                omega
                              · rw [← g7, List.append_assoc]; rfl
                  · have e : j = ds1.length := by omega
                    subst e
                    rw [List.drop_length] at g6
                    cases g6
                    exact .inl ⟨wk1.stops H6 gd1, hlt, S6, acc6, accD6, ys, g1, g3, g4, g5, rfl, g7⟩
    · have e : i = ds.length := by omega
      subst e
      rw [List.drop_length] at hr
      cases hr
      rw [List.append_nil] at ha
      subst ha
      exact .inl ⟨wk.stops H' gd, p1 S' H' fw _ ⟨Dl, .lst acc, rfl, w1.h.nn hD, n1, h1, .lst r1⟩⟩
  · exact p1.elim
theorem de_lc2 {elt tg iter tg1 iter1 : Expr} {ifs ifs1 : List Expr} {scope : Scope} {own : List (Str × Nat)} {vs1 : List Nat} {pos : Pos} {its : Rho → Res (List D)} {t : D → Rho → Res Rho} {tt : Rho → Res Bool} {its1 : Rho → Res (List D)} {t1 : D → Rho → Res Rho} {tt1 : Rho → Res Bool} {fe : Rho → Res D}
    (hc : X.calm = true) (hN : X.N.Nodup) (hno : noOwn G') (hi : PI X tg iter (iD c G its)) (ok : BlkOk X.N X.env.scope scope own) (hv : ∀ i ∈ vs1, i ∈ own.map (·.2))
    (hg : ∀ (s : Shared) (H : Hp) (C : Addr) (cl : List (Str × Addr)) (fp : List Addr), PG (X.blk s H scope (compEnvC scope cl C X.env) fp) tg (gD c.calm G G' (own.map (·.2)) t)) (ht : ∀ (s : Shared) (H : Hp) (C : Addr) (cl : List (Str × Addr)) (fp : List Addr), PTs (X.blk s H scope (compEnvC scope cl C X.env) fp) ifs (tT c.calm G' tt))
    (hi1 : ∀ (s : Shared) (H : Hp) (C : Addr) (cl : List (Str × Addr)) (fp : List Addr), PI (X.blk s H scope (compEnvC scope cl C X.env) fp) tg1 iter1 (iD c.calm G' its1))
    (hg1 : ∀ (s : Shared) (H : Hp) (C : Addr) (cl : List (Str × Addr)) (fp : List Addr), PG (X.blk s H scope (compEnvC scope cl C X.env) fp) tg1 (gD c.calm G' G2 vs1 t1)) (ht1 : ∀ (s : Shared) (H : Hp) (C : Addr) (cl : List (Str × Addr)) (fp : List Addr), PTs (X.blk s H scope (compEnvC scope cl C X.env) fp) ifs1 (tT c.calm G2 tt1))
    (he : ∀ (s : Shared) (H : Hp) (C : Addr) (cl : List (Str × Addr)) (fp : List Addr), PE (X.blk s H scope (compEnvC scope cl C X.env) fp) elt (tV c.calm G2 fe)) (hs : ∀ x, foldedSetIterable iter X.env x = pure x := by intro _; rfl) (hs1 : ∀ env x, foldedSetIterable iter1 env x = pure x := by intro _ _; rfl) :
    PE X (.ListComp elt [⟨tg, iter, ifs, 0⟩, ⟨tg1, iter1, ifs1, 0⟩] scope pos) (tO c G (dLc2 its t tt its1 t1 tt1 fe (own.map (·.2)) vs1)) := pe_imp (pe_lc2 hc hN (pi_l hi) ok hv hg ht hi1 hg1 ht1 he hs hs1) (lc2_rd hno)
end
end Dx
end S_DxL
section S_DxK
set_option Elab.async false
set_option linter.all false
set_option maxRecDepth 100000
set_option maxHeartbeats 2000000
namespace Dx
open PySem L2 PyProof.Rows ClX
end Dx
namespace Dx
open PySem L2
theorem wipe_more {σ σ' : L2.St} {ks ks' : List Nat} (hs : ∀ i ∈ ks, i ∈ ks') (h : L2.wipe σ' ks = L2.wipe σ ks) : L2.wipe σ' ks' = L2.wipe σ ks' := by
  apply List.ext_getElem?
  intro k
  have e : (L2.wipe σ' ks)[k]? = (L2.wipe σ ks)[k]? := by rw [h]
  rw [wipe_get, wipe_get] at e ⊢
  by_cases hk : k ∈ ks
  · rw [if_pos hk, if_pos hk] at e
    rw [if_pos (hs k hk), if_pos (hs k hk)]; exact e
  · rw [if_neg hk, if_neg hk] at e
    rw [e]
theorem dg_more {X : Cx} {c : Cf} {G G' : List Ow} {tg : Expr} {ks ks' : List Nat} {t : D → Rho → Res Rho} (hs : ∀ i ∈ ks, i ∈ ks') (h : PG X tg (gD c G G' ks t)) : PG X tg (gD c G G' ks' t) := pg_imp h fun v σ H Q ⟨S0, H0, S, r, d, ok, hv, p⟩ => ⟨S0, H0, S, r, d, ok, hv, by
  unfold PostR at p ⊢
  split at p
  · rename_i r' hr
    exact fun σ' z ok' => p σ' (wipe_more hs z) ok'
  · exact p.elim⟩
end Dx
end S_DxK
section S_DxAA
set_option Elab.async false
set_option linter.all false
set_option maxRecDepth 100000
set_option maxHeartbeats 2000000
namespace Dx
open PySem L2
section
variable {X : Cx} {c : Cf} {L G G' : List Ow} {f f1 f2 : Rho → Res D} {a b e : Expr} {pos : Pos} {tg : Expr}
def insI (p : Int) : List Int → List Int
  | [] => [p]
  | x :: xs => if x < p then x :: insI p xs else p :: x :: xs
def sortI : List Int → List Int
  | [] => []
  | x :: xs => insI x (sortI xs)
def sortID : D → Res D
  | .lst ds => match allInt ds with
    | some is => .ok (.lst ((sortI is).map D.int))
    | none => .bad
  | _ => .bad
end
section
variable {Q : D → Prop} {E : Str → List Str → List D → Prop} {i j s : Int}
theorem allInt_map : ∀ ns : List Int, allInt (ns.map D.int) = some ns
  | [] => rfl
  | n :: ns => by rw [List.map_cons, allInt, allInt_map ns]
theorem rs_sortI {ns : List Int} (q : Q (.lst ((sortI ns).map D.int))) : Rs (g1 sortID [.lst (ns.map D.int)]) Q E := by
  show Rs (match allInt (ns.map D.int) with | some is => Res.ok (.lst ((sortI is).map D.int)) | none => .bad) Q E
  rw [allInt_map]; exact q
theorem rs_g2 {g : Int → Int → Int} (q : Q (.int (g i j))) : Rs (g2 (intsD g) [.int i, .int j]) Q E := q
theorem rs_sum {ns : List Int} (q : Q (.int ns.sum)) : Rs (g1 sumD [.lst (ns.map D.int)]) Q E := by
  show Rs (match allInt (ns.map D.int) with | some is => Res.ok (.int is.sum) | none => .bad) Q E
  rw [allInt_map]; exact q
end
end Dx
end S_DxAA
section S_DxAB
set_option Elab.async false
set_option linter.all false
set_option maxRecDepth 100000
set_option maxHeartbeats 4000000
namespace Dx
open PySem L2 PyProof.Rows Srt SrtO
section
variable {prog : Program} {w : World} {A : Around} {E : Value → Shared → Prop} {s : Shared}
def IsRow (h : Heap) (v : Value) (k : List Key) : Prop := ∃ a o us n, v = .ref a ∧ h.get? a = some o ∧ o.cls = .type "tuple" ∧ o.data = .seq us.toArray n ∧ Vals (k.map kV) us
theorem IsRow.keeps {h h' : Heap} {v : Value} {k : List Key} (p : IsRow h v k) (kk : ∀ b o, h.get? b = some o → o.cls = .type "tuple" → h'.get? b = some o) : IsRow h' v k := by
  obtain ⟨a, o, us, n, e, ho, hc, hd, hv⟩ := p
  exact ⟨a, o, us, n, e, kk _ _ ho hc, hc, hd, hv⟩
end
end Dx
end S_DxAB
section S_DxAC
set_option Elab.async false
set_option linter.all false
set_option maxRecDepth 100000
set_option maxHeartbeats 4000000
namespace Dx
open PySem L2
section
variable {X : Cx} {c : Cf} {L G G' G'' : List Ow} {f f1 f2 : Rho → Res D} {a b e e2 e3 : Expr} {pos : Pos} {tg : Expr} {k : Nat}
def getE (d k e : D) : Res D := match d with
  | .dk ks vs => match keyD k with
    | some x => .ok ((getK ks vs x).getD e)
    | none => .bad
  | .dt ks vs => match keyT k with
    | some x => .ok ((getK ks vs x).getD e)
    | none => .bad
  | _ => .bad
abbrev FP := (Rho → Res D) × (Rho → Res D)
def dPairs : List FP → Rho → Res (List (D × D))
  | [], _ => .ok []
  | p :: ps, r => (p.1 r).bind fun k => (p.2 r).bind fun d => (dPairs ps r).bind fun kvs => .ok ((k, d) :: kvs)
def RpPs (c : Cf) (S : Hp) : List (V × V) → List (D × D) → Prop
  | [], [] => True
  | v :: vs, d :: ds => Rp c.K c.cm S v.1 d.1 ∧ Rp c.K c.cm S v.2 d.2 ∧ RpPs c S vs ds
  | _, _ => False
def mergeD : List Key → List D → List (D × D) → Res D
  | ks, vs, [] => .ok (.dk ks vs)
  | ks, vs, (k, d) :: kvs => match keyD k with
    | some x => mergeD (putV ks vs x d).1 (putV ks vs x d).2 kvs
    | none => .bad
def dDisp (ps : List FP) : Rho → Res D := fun r => (dPairs ps r).bind fun kvs => mergeD [] [] kvs
theorem RpPs.len {S : Hp} : ∀ {vs : List (V × V)} {ds : List (D × D)}, RpPs c S vs ds → vs.length = ds.length
  | [], [], _ => rfl
  | v :: vs, d :: ds, h => by simp [RpPs.len h.2.2]
  | [], _ :: _, h => h.elim
  | _ :: _, [], h => h.elim
def allBl : List D → Option (List Bool)
  | [] => some []
  | .bl b :: ds => match allBl ds with
    | some bs => some (b :: bs)
    | none => none
  | _ => none
def allD : D → Res D
  | .lst ds => match allBl ds with
    | some bs => .ok (.bl (bs.all id))
    | none => .bad
  | _ => .bad
def inKt (neg : Bool) (d e : D) : Res D := match e with
  | .kt ds => match inFlat d ds with
    | some b => .ok (.bl (if neg then !b else b))
    | none => .bad
  | _ => .bad
theorem kt_mk {K : PySem.W.Frag} {cm : CM} {A : Addr} {od : Option Addr} {n : Nat} {sl : Array (Option Value)} {us : List Value} {xs : List V} {ds : List D} (l : K.lookup A = some ⟨.type "tuple", od, .seq us.toArray n, sl⟩) (hz : us.length ≤ 1000) (hv : Vals xs us) {S : Hp} (hr : RpA K cm S xs ds) : Rp K cm S (.ref A) (.kt ds) :=
  .kt (.inr ⟨_, us.toArray, n, l, rfl, rfl, by rw [sizeLine_eq]; simp; omega, by simpa using hv⟩) hr
def parF3 (i j l : Nat) (f1 f2 f3 : Rho → Res D) : Rho → SR := fun r => liftS r (dCons f1 (dCons f2 (dCons f3 dNil)) r) fun ds => match ds with
  | [d, e, g] => .nx (((r.set i (some d)).set j (some e)).set l (some g))
  | _ => .bad
theorem ds_par3 (i j l : Nat) {f3 : Rho → Res D} {c' : Expr} {x y z : Str} {px py pz pt pt2 : Pos} {kt k2 : Nat} (hg : Gok c G) (hc : X.calm = true) (hN : X.N.Nodup) (hi : X.N[i]? = some x) (hj : X.N[j]? = some y) (hl : X.N[l]? = some z) (hij : i ≠ j) (hil : i ≠ l) (hjl : j ≠ l)
    (hx : X.env.scope.names.lookup x = some .local) (hy : X.env.scope.names.lookup y = some .local) (hz : X.env.scope.names.lookup z = some .local) (ha : PE X a (tV c G f1)) (hb : PE X b (tV c G f2)) (hcc : PE X c' (tV c G f3))
    (hw : swappedStores [.Tuple [.Name x px, .Name y py, .Name z pz] kt pt] (.Tuple [a, b, c'] k2 pt2) X.env = pure (some [x, y, z]))
    (hs : swapsWithSole [.Tuple [.Name x px, .Name y py, .Name z pz] kt pt] (.Tuple [a, b, c'] k2 pt2) pos.line X.env = pure false := by rfl)
    (hs1 : starEach [a, b, c'] X.env = (false, eval a X.env) :: starEach [b, c'] X.env := by rfl) (hs2 : starEach [b, c'] X.env = (false, eval b X.env) :: starEach [c'] X.env := by rfl) (hs3 : starEach [c'] X.env = (false, eval c' X.env) :: starEach [] X.env := by rfl) :
    PS X (.Assign [.Tuple [.Name x px, .Name y py, .Name z pz] kt pt] (.Tuple [a, b, c'] k2 pt2) pos) (sD c L G (((G.set i .v).set j .v).set l .v) (parF3 i j l f1 f2 f3)) :=
  ps_imp (ps_par3 hc hN hi hj hl hij hil hjl hx hy hz (da_cons ha (da_cons hb (da_cons hcc da_nil hs3) hs2) hs1) hw hs) fun E σ H ⟨S0, H0, S, r, ok, p⟩ => st_seq hg ok p fun ds vs S1 H1 w1 o1 m1 p1 => by
    match ds, m1, p1 with
    | [d, e, g], .cons hd (.cons he (.cons hh .nil)), p1 => exact ⟨_, _, _, rfl, p1 _ S1 H1 (((o1.setV i hd).setV j he).setV l hh)⟩
    | [], _, p1 => exact p1.elim
    | [_], _, p1 => exact p1.elim
    | [_, _], _, p1 => exact p1.elim
    | _ :: _ :: _ :: _ :: _, _, p1 => exact p1.elim
end
section
variable {Q : D → Prop} {E : Str → List Str → List D → Prop} {r : Rho} {f f1 f2 f3 : Rho → Res D} {d k e : D}
theorem allBl_map : ∀ bs : List Bool, allBl (bs.map D.bl) = some bs
  | [] => rfl
  | b :: bs => by rw [List.map_cons, allBl, allBl_map bs]
theorem rs_all {bs : List Bool} (q : Q (.bl (bs.all id))) : Rs (g1 allD [.lst (bs.map D.bl)]) Q E := by
  show Rs (match allBl (bs.map D.bl) with | some bs => Res.ok (.bl (bs.all id)) | none => .bad) Q E
  rw [allBl_map]; exact q
end
section
variable {N B C : Rho → Prop} {R : D → Prop} {E : Rho → Str → List Str → List D → Prop} {r : Rho} {f f1 f2 f3 : Rho → Res D} {i j l : Nat}
theorem ss_par3 (h : Rs (f1 r) (fun d => Rs (f2 r) (fun e => Rs (f3 r) (fun g => N (((r.set i (some d)).set j (some e)).set l (some g))) (E r)) (E r)) (E r)) : Ss (parF3 i j l f1 f2 f3 r) N R B C E :=
  ss_lift (rs_cons (h.impE (fun d q => rs_cons (q.impE (fun e q => rs_cons (q.impE (fun g q => rs_nil q) fun _ _ _ z => z)) fun _ _ _ z => z)) fun _ _ _ z => z))
end
end Dx
end S_DxAC
section S_DxAD
set_option Elab.async false
set_option linter.all false
set_option maxRecDepth 100000
set_option maxHeartbeats 2000000
namespace Dx
open PySem L2
section
variable {X : Cx} {c : Cf} {G : List Ow} {pos : Pos}
theorem de_strL {x y : Str} {j : Nat} (h : x = y) : PE X (.Constant (.str x) j pos) (tV c G (dC (.str y))) := by subst h; exact de_str
end
theorem log_small {i : Int} (h : 0 ≤ i) (h1 : i < 1000000000000) : i.natAbs.log2 < 1920 := by
  by_cases h0 : i.natAbs = 0
  · rw [h0]; decide
  · have : i.natAbs < 2 ^ 40 := by omega
    have := (Nat.log2_lt h0).mpr this
    omega
theorem num_ST {i : Int} (h : 0 ≤ i) : (toString i : Str) = Sg (TL.numL i.toNat) := by
  have e : i = ((i.toNat : Nat) : Int) := by omega
  refine TL.ext_tl ?_
  have := TL.tl_num i.toNat
  rw [← e] at this
  exact this
theorem lt_one {a b : Nat} : ([a] < [b]) ↔ a < b := by
  constructor
  · intro h
    cases h with
    | rel h => exact h
    | cons h => cases h
  · intro h; exact List.Lex.rel h
section
variable {Q : D → Prop} {E : Str → List Str → List D → Prop} {i j : Int} {a b l : List Nat} {r : Rho} {f : Rho → Res D} {g : Str → Rho → Res D} {acc : List Nat} {d : D}
theorem rs_strI (h : 0 ≤ i ∧ i < 1000000000000) (q : Q (.str (Sg (TL.numL i.toNat)))) : Rs (g1 strD [.int i]) Q E :=
  rs_guard (log_small h.1 h.2) (by show Q (.str (toString i)); rw [num_ST h.1]; exact q)
theorem rs_fmtI (h : 0 ≤ i ∧ i < 1000000000000) (q : Q (.str (Sg (TL.numL i.toNat)))) : Rs (fmtD (.int i)) Q E :=
  rs_guard (log_small h.1 h.2) (by show Q (.str (toString i)); rw [num_ST h.1]; exact q)
theorem rs_fmtS (h : a.length ≤ sizeLine) (q : Q (.str (Sg a))) : Rs (fmtD (.str (Sg a))) Q E := rs_guard (by rw [ST_len]; exact h) q
theorem rs_jnil (q : Q (.str (Sg acc))) : Rs (dJnil (Sg acc) r) Q E := q
theorem rs_jcons (h : Rs (f r) (fun d => Rs (asS d) (fun y => ∃ l, y = Sg l ∧ acc.length + l.length ≤ 100000 ∧ Rs (g (Sg (acc ++ l)) r) Q E) E) E) : Rs (dJcons f g (Sg acc) r) Q E :=
  Rs.bind (h.impE (fun d q => Rs.bind (q.impE (fun y q => by
    obtain ⟨l, rfl, h1, h2⟩ := q
    rw [ST_app]
    exact rs_guard (by rw [ST_len, List.length_append]; exact Nat.le_trans h1 sz5) h2) fun _ _ _ z => z)) fun _ _ _ z => z)
theorem rs_asSJ {l : List Nat} (h : acc.length + l.length ≤ 100000) (k : Rs (g (Sg (acc ++ l)) r) Q E) : Rs (asS (.str (Sg l))) (fun y => ∃ l, y = Sg l ∧ acc.length + l.length ≤ 100000 ∧ Rs (g (Sg (acc ++ l)) r) Q E) E := ⟨l, rfl, h, k⟩
theorem rs_dJoin (h : Rs (g (Sg []) r) Q E) : Rs (dJoin g r) Q E := h
theorem rs_ord {n : Nat} (q : Q (.int n)) : Rs (g1 ordX [.str (Sg [n])]) Q E := rs_guard (by rw [ST_len]; rfl) q
theorem rs_leS {m n : Nat} (q : Q (.bl (decide (m ≤ n)))) : Rs (leD (.str (Sg [m])) (.str (Sg [n]))) Q E := by
  show Q (.bl (!decide ([n] < [m])))
  rw [show (!decide ([n] < [m])) = decide (m ≤ n) from by
    rw [Bool.eq_iff_iff]
    simp only [Bool.not_eq_true', decide_eq_false_iff_not, decide_eq_true_eq, lt_one]
    omega]
  exact q
theorem inFlat_ints (i : Int) (ns : List Int) : inFlat (.int i) (ns.map D.int) = some (decide (i ∈ ns)) := by
  have e : flatDs (ns.map D.int) = some (ns.map V.int) := by
    induction ns with
    | nil => rfl
    | cons n ns ih => rw [List.map_cons, flatDs, ih]; rfl
  unfold inFlat
  rw [e]
  show some (inV (V.int i) (ns.map V.int)) = _
  congr 1
  induction ns with
  | nil => rfl
  | cons n ns ih =>
    have e : flatDs (ns.map D.int) = some (ns.map V.int) := by
      clear ih e
      induction ns with
      | nil => rfl
      | cons n ns ih => rw [List.map_cons, flatDs, ih]; rfl
    have ih := ih e
    unfold inV at ih ⊢
    rw [List.map_cons, List.any_cons, ih]
    show (decide (n = i) || decide (i ∈ ns)) = _
    by_cases h : n = i
    · subst h; simp
    · have h' : ¬ i = n := fun z => h z.symm
      simp [h, h']
theorem rs_inKI {neg : Bool} {ns : List Int} (q : Q (.bl (if neg then !decide (i ∈ ns) else decide (i ∈ ns)))) : Rs (inKt neg (.int i) (.kt (ns.map D.int))) Q E := by
  show Rs (match inFlat (.int i) (ns.map D.int) with | some b => Res.ok (D.bl (if neg then !b else b)) | none => .bad) Q E
  rw [inFlat_ints]; exact q
theorem rs_inI {ns : List Int} (q : Q (.bl (decide (i ∈ ns)))) : Rs (inD (.int i) (.lst (ns.map D.int))) Q E := by
  show Rs ((inLst (.int i) (ns.map D.int)).bind _) Q E
  unfold inLst
  rw [inFlat_ints]; exact q
theorem rs_ninI {ns : List Int} (q : Q (.bl (!decide (i ∈ ns)))) : Rs (ninD (.int i) (.lst (ns.map D.int))) Q E := by
  show Rs ((inLst (.int i) (ns.map D.int)).bind _) Q E
  unfold inLst
  rw [inFlat_ints]; exact q
end
abbrev TD := List (List Nat × D)
def kS (a : List Nat) : Key := .inr (Sg a)
theorem kS_inj {a b : List Nat} : kS a = kS b ↔ a = b := ⟨fun h => by injection h with h; exact ST_inj.mp h, fun h => by rw [h]⟩
def dkT (T : TD) : D := .dk (T.map fun p => kS p.1) (T.map (·.2))
def lk (T : TD) (a : List Nat) : Option D := (T.find? fun p => decide (p.1 = a)).map (·.2)
theorem lk_cons (p : List Nat × D) (T : TD) (a : List Nat) : lk (p :: T) a = if p.1 = a then some p.2 else lk T a := by
  unfold lk
  rw [List.find?_cons]
  by_cases h : p.1 = a
  · rw [if_pos h, decide_eq_true h]; rfl
  · rw [if_neg h, decide_eq_false h]
theorem getK_T (T : TD) (a : List Nat) : getK (T.map fun p => kS p.1) (T.map (·.2)) (kS a) = lk T a := by
  induction T with
  | nil => rfl
  | cons p T ih =>
    rw [List.map_cons, List.map_cons, getK, ih, lk_cons]
    by_cases h : p.1 = a
    · rw [if_pos (kS_inj.mpr h), if_pos h]
    · rw [if_neg (fun z => h (kS_inj.mp z)), if_neg h]
theorem lk_isSome {T : TD} {a : List Nat} : (lk T a).isSome = decide (a ∈ T.map (·.1)) := by
  induction T with
  | nil => rfl
  | cons p T ih =>
    rw [lk_cons, List.map_cons]
    by_cases h : p.1 = a
    · rw [if_pos h]; simp [h]
    · have h' : ¬ a = p.1 := fun z => h z.symm
      rw [if_neg h, ih]; simp [h']
section
variable {Q : D → Prop} {E : Str → List Str → List D → Prop} {T : TD} {a : List Nat} {d e : D} {r : Rho}
theorem rs_inTk {neg : Bool} (q : Q (.bl (if neg then !decide (a ∈ T.map (·.1)) else decide (a ∈ T.map (·.1))))) : Rs (inK neg (.str (Sg a)) (dkT T)) Q E := by
  show Q (.bl (if neg then !(getK (T.map fun p => kS p.1) (T.map (·.2)) (kS a)).isSome else (getK (T.map fun p => kS p.1) (T.map (·.2)) (kS a)).isSome))
  rw [getK_T, lk_isSome]; exact q
theorem rs_getET (q : Q ((lk T a).getD e)) : Rs (getE (dkT T) (.str (Sg a)) e) Q E := by
  show Q ((getK (T.map fun p => kS p.1) (T.map (·.2)) (kS a)).getD e)
  rw [getK_T]; exact q
theorem rs_dD0 (q : Q (dkT [])) : Rs (dD0 r) Q E := q
theorem rs_listTk (q : Q (.lst (T.map fun p => .str (Sg p.1)))) : Rs (g1 listK [dkT T]) Q E := by
  show Q (.lst ((T.map fun p => kS p.1).map keyOf))
  rw [List.map_map]; exact q
theorem rs_lenTk (q : Q (.int T.length)) : Rs (g1 lenK [dkT T]) Q E := by
  show Q (.int (T.map fun p => kS p.1).length)
  rw [List.length_map]; exact q
theorem rs_itTk {Q : List D → Prop} (q : Q (T.map fun p => .str (Sg p.1))) : Rs (itemsK (dkT T)) Q E := by
  show Q ((T.map fun p => kS p.1).map keyOf)
  rw [List.map_map]; exact q
end
section
variable {Q : D → Prop} {E : Str → List Str → List D → Prop} {r : Rho} {fk fv : Rho → Res D} {ps : List FP}
theorem rs_disp (h : Rs (dPairs ps r) (fun kvs => Rs (mergeD [] [] kvs) Q E) E) : Rs (dDisp ps r) Q E := Rs.bind h
theorem rs_pnil {Q : List (D × D) → Prop} (q : Q []) : Rs (dPairs [] r) Q E := q
theorem rs_pcons {Q : List (D × D) → Prop} (h : Rs (fk r) (fun k => Rs (fv r) (fun d => Rs (dPairs ps r) (fun kvs => Q ((k, d) :: kvs)) E) E) E) : Rs (dPairs ((fk, fv) :: ps) r) Q E :=
  Rs.bind (h.impE (fun k q => Rs.bind (q.impE (fun d q => Rs.bind (q.impE (fun _ z => z) fun _ _ _ z => z)) fun _ _ _ z => z)) fun _ _ _ z => z)
end
section
variable {Q : D → Prop} {E : Str → List Str → List D → Prop} {r : Rho} {i : Nat} {n f : Str} {ns : List Str} {vs : List D} {d : D}
theorem rs_isX {isM : Str → Option Bool} {b : Bool} (h1 : r[i]? = some (some (.obj n ns vs))) (h2 : isM n = some b) (q : Q (.bl b)) : Rs (dIsX isM i r) Q E := by
  unfold dIsX
  rw [h1]
  dsimp only
  rw [h2]
  exact q
theorem rs_xf (h1 : r[i]? = some (some (.obj n ns vs))) (h2 : lookF ns vs f = some d) (q : Q d) : Rs (dXf i f r) Q E := by
  unfold dXf
  rw [h1]
  dsimp only
  rw [h2]
  exact q
end
section
variable {N B C : Rho → Prop} {R : D → Prop} {E : Rho → Str → List Str → List D → Prop} {r : Rho} {t u : Rho → Res Bool} {F K : Rho → SR}
/-- if t or u: F else: K, one test after the other -/
theorem ss_ifo (h : Rs (t r) (fun a => (a = true → Ss (F r) N R B C E) ∧ (a = false → Ss (ifF u F K r) N R B C E)) (E r)) : Ss (ifF (dOr t u) F K r) N R B C E := by
  unfold ifF
  refine ss_lift ?_
  refine rs_orc (h.impE (fun a q => ⟨fun ha => ?_, fun ha => ?_⟩) fun _ _ _ z => z)
  · exact q.1 ha
  · have q := q.2 ha
    unfold ifF at q
    cases hu : u r with
    | ok b => rw [hu] at q; exact q
    | err n ns vs => rw [hu] at q; exact q
    | bad => rw [hu] at q; exact q
theorem ss_ifa (h : Rs (t r) (fun a => (a = true → Ss (ifF u F K r) N R B C E) ∧ (a = false → Ss (K r) N R B C E)) (E r)) : Ss (ifF (dAnd t u) F K r) N R B C E := by
  unfold ifF
  refine ss_lift ?_
  refine rs_andc (h.impE (fun a q => ⟨fun ha => ?_, fun ha => ?_⟩) fun _ _ _ z => z)
  · have q := q.1 ha
    unfold ifF at q
    cases hu : u r with
    | ok b => rw [hu] at q; exact q
    | err n ns vs => rw [hu] at q; exact q
    | bad => rw [hu] at q; exact q
  · exact q.2 ha
end
end Dx
end S_DxAD
section S_DxAE
set_option Elab.async false
set_option linter.all false
set_option maxRecDepth 100000
set_option maxHeartbeats 2000000
namespace Dx
open PySem L2
section
variable {X : Cx} {c : Cf} {L G G' : List Ow} {S0 H0 S H S' H' : Hp} {σ : St} {r : Rho} {e : Expr} {f : Rho → Res D} {pos apos cpos : Pos} {E : Env}
def asL : D → Res (List D)
  | .lst ds => .ok ds
  | _ => .bad
noncomputable def extF (i : Nat) (f : Rho → Res D) : Rho → SR := fun r => liftS r (ownL i r) fun ds => liftS r (f r) fun d => liftS r (asL d) fun es => guardS (ds.length + es.length ≤ sizeLine) (.nx (r.set i (some (.lst (ds ++ es)))))
theorem ds_ext (i : Nat) {x : Str} {pn : Pos} (hg : Gok c G) (k : kd G i = .o) (ho : PE X (.Name x pn) (tVar i)) (he : PE X e (tV c G f)) (hw : swapsWith (.Call (.Attribute (.Name x pn) "extend" apos) [e] [] cpos) none pos.line X.env = pure false := by rfl)
    (hbase : attributeBase (.Name x pn) "extend" X.env (eval (.Name x pn) X.env) = eval (.Name x pn) X.env := by rfl)
    (hfew : ((backTo cpos (starEach [e] X.env)).all (fun x => !x.1) && (backToKw cpos (keywordEach [] X.env)).all (fun x => x.1.isSome) && decide ([e].length + ([] : List Keyword).length + (if ([] : List Keyword).isEmpty then 0 else 1) < 30)) = true := by rfl)
    (hline : (apos.endLine == cpos.line) = true := by rfl) (hs : starEach [e] X.env = (false, eval e X.env) :: starEach [] X.env := by rfl) :
    PS X (.Expr (.Call (.Attribute (.Name x pn) "extend" apos) [e] [] cpos) pos) (sD c L G G (extF i f)) :=
  ps_imp (ps_expr (pe_bm PySem.F.plainAttrs_list PySem.F.slot_list_extend PySem.F.type_list_extend mt_extend ho (pa_cons he pa_nil hs) hbase hfew hline hs rfl) hw) fun E σ H ⟨S0, H0, S, r, ok, p⟩ => by
    obtain ⟨q, xs, ds, hd, z1, z2, z3, p1⟩ := of_ownL ok k p
    refine ⟨.ref q, z1, .inl ⟨rfl, xs, .inl (.inl z2)⟩, st_seq hg ok p1 fun d v S1 H1 w1 o1 m1 p2 => ?_⟩
    cases d with
    | lst es =>
      replace p2 : PostS c S0 H0 L G (guardS (ds.length + es.length ≤ sizeLine) (.nx (r.set i (some (.lst (ds ++ es)))))) E := p2
      obtain ⟨hl, p2⟩ := p2.gd
      cases m1 with
      | lst a1 r1 =>
        exact ⟨q, _, xs, _, rfl, rfl, w1.h _ _ z2, o1.ex _ _ a1, by rw [z3.length, r1.length]; exact hl, p2 σ S1 _ (o1.mut k hd z1 (.lst ((z3.mono w1.s).app r1)))⟩
    | _ => exact p2.elim
end
section
variable {Q : D → Prop} {E : Str → List Str → List D → Prop} {r : Rho} {f : Rho → Res D}
theorem rs_asL {Q : List D → Prop} {ds : List D} (q : Q ds) : Rs (asL (.lst ds)) Q E := q
end
section
variable {N B C : Rho → Prop} {R : D → Prop} {E : Rho → Str → List Str → List D → Prop} {r : Rho} {f : Rho → Res D} {i : Nat}
theorem ss_ext {ds : List D} (h1 : r[i]? = some (some (.lst ds))) (h : Rs (f r) (fun d => Rs (asL d) (fun es => ds.length + es.length ≤ sizeLine ∧ N (r.set i (some (.lst (ds ++ es))))) (E r)) (E r)) : Ss (extF i f r) N R B C E := by
  unfold extF
  refine ss_lift (Rs.of (a := ds) (by unfold ownL; rw [h1]) (ss_lift (h.impE (fun d q => ss_lift (q.impE (fun es q => ?_) fun _ _ _ z => z)) fun _ _ _ z => z)))
  rw [guardS_pos q.1]; exact q.2
end
end Dx
end S_DxAE
section S_DxAF
set_option Elab.async false
set_option linter.all false
set_option maxRecDepth 100000
set_option maxHeartbeats 4000000
namespace Dx
open PySem L2 PySem.Spec PyProof.Rows
end Dx
end S_DxAF
section S_DxAG
set_option Elab.async false
set_option linter.all false
set_option maxRecDepth 100000
set_option maxHeartbeats 4000000
namespace Dx
open PySem L2
end Dx
end S_DxAG
section S_DxAH
set_option Elab.async false
set_option linter.all false
set_option maxRecDepth 100000
set_option maxHeartbeats 2000000
namespace Dx
open PySem L2
theorem rs_lc2 {α : Type} {Q : D → Prop} {E : Str → List Str → List D → Prop} {r : Rho} {its its1 : Rho → Res (List D)} {t t1 : D → Rho → Res Rho} {fe : Rho → Res D} {vs vs1 : List Nat} (c : α → D) (g : α → List D) (xs : List α) (hi : Rs (its r) (fun ds => ds = xs.map c) E)
    (hs : ∀ x ∈ xs, ∃ r1, t (c x) (wipeR r vs) = .ok r1 ∧ Rs (its1 r1) (fun ds => lcLoop t1 dYes fe (wipeR r1 vs1) ds = .ok (g x)) nE) (hl : (xs.flatMap g).length ≤ sizeLine) (q : Q (.lst (xs.flatMap g))) : Rs (dLc2 its t dYes its1 t1 dYes fe vs vs1 r) Q E := by
  have go : ∀ ys : List α, (∀ x ∈ ys, x ∈ xs) → lc2Loop t dYes its1 t1 dYes fe vs1 (wipeR r vs) (ys.map c) = .ok (ys.flatMap g) := by
    intro ys
    induction ys with
    | nil => intro _; rfl
    | cons y ys ih =>
      intro h
      obtain ⟨r1, h1, h2⟩ := hs y (h y (by simp))
      obtain ⟨ds, h3, h4⟩ := h2.get
      rw [List.map_cons, lc2Loop, h1]
      dsimp only
      show (match its1 r1 with
        | .ok ds1 => _
        | _ => _) = _
      rw [h3]
      dsimp only
      rw [h4]
      dsimp only
      rw [ih fun x hx => h x (by simp [hx])]
      rfl
  refine Rs.bind (hi.impE (fun ds e => ?_) fun _ _ _ z => z)
  subst e
  rw [go xs fun x hx => hx]
  exact rs_guard hl q
end Dx
end S_DxAH
section S_DxAI
set_option Elab.async false
set_option linter.all false
set_option maxRecDepth 100000
set_option maxHeartbeats 2000000
namespace Dx
open PySem PySem.Spec L2 ItX PyProof.Rows
end Dx
end S_DxAI
section S_DxAJ
set_option Elab.async false
set_option linter.all false
set_option maxRecDepth 100000
set_option maxHeartbeats 2000000
namespace Dx
open PySem L2 ItX PyProof.Rows
section
variable {X : Cx} {c : Cf} {L G G' : List Ow} {f f1 : Rho → Res D} {fs gs : Rho → Res (List D)} {e o : Expr} {es : List Expr} {kws : List Keyword} {pos apos p : Pos} {C : Addr}
variable {k n : Nat} {fa : Addr} {fd : FuncData} {ps ks : List Str} {ms ms1 ms2 : List Bool} {rm : Bool} {F : List D → Res D}
theorem pk_imp {t t' : TA} (h : PK X kws t) (k : ∀ σ H Q, t' σ H Q → t σ H Q) : PK X kws t' := ⟨fun p pins s σ H Q I q => h.run p pins s σ H Q I (k σ H Q q)⟩
theorem dk_nil : PK X [] (tM c G [] dNil) := pk_imp pk_nil fun σ H Q ⟨S0, H0, S, r, ok, p⟩ => p.go ok.ex _ trivial
theorem dk_val {nm : Option Str} {kpos : Pos} {ms : List Bool} (ha : PE X e (tV c G f)) (hr : PK X kws (tM c G ms fs)) : PK X (⟨nm, e, kpos⟩ :: kws) (tM c G (false :: ms) (dCons f fs)) :=
  pk_imp (pk_cons ha hr) fun σ H Q ⟨S0, H0, S, r, ok, p⟩ => rd_seq ok p fun d v S1 H1 w1 o1 m1 p1 => rd_seq o1 p1 fun ds vs S2 H2 w2 o2 m2 p2 => p2.go o2.ex _ ⟨m1.mono w2.s, m2⟩
theorem RpM.length {S H : Hp} : ∀ {ms : List Bool} {vs : List V} {ds : List D}, RpM c S H ms vs ds → vs.length = ms.length
  | [], vs, ds, h => by cases vs <;> cases ds <;> first | rfl | exact h.elim
  | b :: ms, vs, ds, h => by
    cases vs with
    | nil => cases b <;> cases ds <;> exact h.elim
    | cons v vs => cases ds with
      | nil => cases b <;> exact h.elim
      | cons d ds => cases b <;> exact congrArg Nat.succ (RpM.length h.2)
end
end Dx
end S_DxAJ
section S_DxAK
set_option Elab.async false
set_option linter.all false
set_option maxRecDepth 100000
set_option maxHeartbeats 2000000
namespace Dx
open PySem PySem.Spec L2 ItX PyProof.Rows
end Dx
end S_DxAK
section S_DxAL
set_option Elab.async false
set_option linter.all false
set_option maxRecDepth 100000
set_option maxHeartbeats 2000000
namespace Dx
open PySem PySem.Spec L2 ItX PyProof.Rows
/-- what a def promises where an exception is handled: p stays as it is -/
structure FnW (P : Program) (w : World) (K : PySem.W.Frag) (mg : Str → Option Value) (base : Heap) (CX : CXT) (k : Nat) (f : Addr) (fd : FuncData) (ps : List Str) (sp : Sp) : Prop where
  len : ∀ vs H Q E, sp vs H Q E → vs.length = ps.length
  run : ∀ (A : Around) (outer : List Env) (s : Shared) (H : Hp) (args : Args) (us : List Value) (vs : List V) (Q : VK) (E : XK) (p : Addr × Obj), L2H.RoomH k A → L2H.PinOk outer H s p → Env0 P w K mg base A outer s H → BindsTo s fd args (ps.zip us) → Vals vs us → sp vs H Q E →
    codeAny (model P w) A (.call (.ref f) args) (CR CX outer P w H s Q E) s
theorem roomH_mark {j k : Nat} {A : Around} {v : Option Value} (r : Room k A) (h : j ≤ k) : L2H.RoomH j (A.mark v) := ⟨by have := r.dp; show A.depth + 3 * j + 5 < recursionLimit; omega, by have := r.un; show A.units + 16 * j + 200 < cLine; omega⟩
theorem _root_.L2H.RoomH.units {k : Nat} {A : Around} (r : L2H.RoomH k A) : A.units + 64 < cLine := by have := r.un; omega
section
variable {P : Program} {w : World} {K : PySem.W.Frag} {mg : Str → Option Value} {base : Heap} {cm : CM}
theorem Fun.okW {x qual : Str} {st : Stmt} {f : Addr} {fd : FuncData} {N ps : List Str} {k : Nat} {sp : Sp} (F : Fun K x qual st f fd) (S : FnScope N ps (defScope st)) (len : ∀ vs H Q E, sp vs H Q E → vs.length = ps.length)
    (hbody : ∀ (cdv : Value) (A : Around) (outer : List Env) (s : Shared) (H : Hp) (vs : List V) (Q : VK) (E : XK) (p : Addr × Obj), L2H.RoomH k (A.deeper (envOfC qual (defScope st) s.heap.objs.size f cdv)) → sp vs H Q E →
      ∃ t, PSs (L2H.cxH (L2.CX P w) P w K mg base N qual (defScope st) f cdv A outer s H E p) (defBody st) t ∧ t { nx := fun _ H' => Q .non H', rt := Q } (start N vs) H) : FnW P w K mg base (L2.CX P w) (k + 1) f fd ps sp := by
  obtain ⟨oc, od, kV, doc, pm, an, cdv, ct, osl, rfl, lk, hcd⟩ := F.ex
  refine ⟨len, fun A outer s H args us vs Q E p hr hpin e0 hb r hsp => ?_⟩
  have KX : K.In s.heap := e0.mod.kin.keeps fun b o e => (e0.bs b o e).1
  refine codeAny_call_function hr.depth (KX _ _ lk) rfl S.co S.gen rfl (PySem.W.codeRec_of KX hcd) (hb _ _ _ _ ?_)
  refine wpAny_newFunctionEnv_cells S.kind (fun ⟨n, v⟩ hy => ?_) fun env he s1 x => ?_
  · rcases S.par n (List.of_mem_zip hy).1 with q | q
    · exact .inl q
    · exact .inr ⟨q, PySem.W.cellsFrom_some _ _ _ (.inl q)⟩
  subst he
  have lim : s.heap.NoLimit := e0.mod.nolimit.keeps fun b o e => (e0.bs b o e).1
  refine ⟨lim.keeps x.toInCall.keep, codeAny_func ?_⟩
  obtain ⟨t, ht, hq⟩ := hbody cdv A outer s H vs Q E p (hr.deeper _) hsp
  have I := L2H.inv_startH (CX := L2.CX P w) (E := E) (cd := cdv) S hpin e0 (len _ _ _ _ hsp) r x
  refine wpAny_mono (ht.run [] s1 (start N vs) H _ I hq) (fun fl s' hs => ?_) fun e s' hs => hs
  cases fl with
  | ret u =>
    obtain ⟨v, σ', H', J, rv, q⟩ := hs
    exact ⟨v, H', J.os, J.bare, J.base, J.hok, rv, q⟩
  | next =>
    obtain ⟨σ', H', J, q⟩ := hs
    exact ⟨V.non, H', J.os, J.bare, J.base, J.hok, rfl, q⟩
  | brk =>
    obtain ⟨_, _, _, q⟩ := hs
    exact False.elim q
  | cont =>
    obtain ⟨_, _, _, q⟩ := hs
    exact False.elim q
end
section
variable {X : Cx} {c : Cf} {L G G' : List Ow} {f f1 : Rho → Res D} {fs : Rho → Res (List D)} {e o : Expr} {es : List Expr} {pos p : Pos}
variable {k : Nat} {fa : Addr} {fd : FuncData} {ps : List Str} {ms : List Bool} {rm : Bool} {F : List D → Res D} {x : Str}
theorem pe_callW {CX : CXT} {sp : Sp} {E : L2.St → XK} {t : TA} (F : FnW X.prog X.w X.K X.mg X.base CX k fa fd ps sp) (hr : L2H.RoomH k X.A) (hp : ∃ q, q ∈ X.pn) (hg : Gl X x) (hm : X.mg x = some (.ref fa)) (hk : PySem.W.keepIn X.K (.ref fa) = true) (hb : L2.Binds X.K fd ps []) (hx : ∀ σ, PassesAt CX X σ (E σ))
    (ha : PA X (e :: es) t) (hdb : (x == ("__debug__" : Str)) = false := by decide) (he : starEach (e :: es) X.env = (false, eval e X.env) :: starEach es X.env := by rfl) (hpl : (backTo pos (starEach es X.env)).any (·.1) = false := by rfl) :
    PE X (.Call (.Name x p) (e :: es) [] pos) (tCallS sp E t) := by
  refine ⟨fun pins s σ H Q I h => ?_⟩
  refine wpAny_Call_Name_kw (ld_glob I hg hm ?_ hdb)
  refine PySem.W.callWith_K (h₀ := X.base) I.ok.mod.kin hk (thn (ha.run pos pins s σ H _ I h) fun us s1 ⟨vs, H1, I1, r, q⟩ => ⟨I1.kIn, ?_⟩) he hpl
  obtain ⟨q0, hq0⟩ := hp
  have b := hb s1 us I1.kIn (by rw [List.append_nil, ← r.length]; exact F.len _ _ _ _ q)
  rw [List.append_nil] at b
  have P1 := I1.pin q0 (List.mem_append_left _ hq0)
  have hpin : L2H.PinOk X.stack H1 s1 q0 := ⟨P1.1, P1.2.1, fun hm => (List.mem_cons.mp (I1.stkSub q0.1 hm)).elim P1.2.2.1 P1.2.2.2.1, P1.2.2.2.2⟩
  refine wpAny_call (codeAny_mono (F.run X.A X.stack s1 H1 ⟨us, []⟩ us vs Q (E σ) q0 hr hpin I1.env0 b r q) fun r s' hq => ?_)
  cases r with
  | error e => exact hx σ pins H1 s1 e s' I1 hq
  | ok fl =>
    cases fl with
    | ret u => exact I1.after hq
    | next => exact False.elim hq
    | brk => exact False.elim hq
    | cont => exact False.elim hq
theorem de_callW (F1 : FnW X.prog X.w X.K X.mg X.base (L2.CX X.prog X.w) k fa fd ps (spD c.K c.cm ms false F)) (tk : Takes X c.W) (hr : L2H.RoomH k X.A) (hp : ∃ q, q ∈ X.pn) (hg : Gl X x) (hm : X.mg x = some (.ref fa)) (hk : PySem.W.keepIn X.K (.ref fa) = true) (hb : L2.Binds X.K fd ps [])
    (ha : PA X (e :: es) (tM c G ms fs)) (hdb : (x == ("__debug__" : Str)) = false := by decide) (he : starEach (e :: es) X.env = (false, eval e X.env) :: starEach es X.env := by rfl) (hpl : (backTo pos (starEach es X.env)).any (·.1) = false := by rfl) :
    PE X (.Call (.Name x p) (e :: es) [] pos) (tV c G (dCall F fs)) :=
  pe_imp (pe_callW (E := fun σ cls d H => c.W cls d σ H) F1 hr hp hg hm hk hb (fun σ => passAt tk σ) ha hdb he hpl) fun σ H Q ⟨S0, H0, S, r, ok, q⟩ => rd_seq ok q fun ds vs S1 H1 w1 o1 m1 p1 =>
    call_rd (fun _ _ _ h => h) o1.ex m1 (p1.anti w1.h)
end
section
variable {P : Program} {w : World} {K : PySem.W.Frag} {mg : Str → Option Value} {base : Heap} {cm : CM}
theorem dokW {x qual : Str} {st : Stmt} {f : Addr} {fd : FuncData} {N ps : List Str} {k : Nat} {ms : List Bool} {rm : Bool} {G' : List Ow} {Fb : Rho → SR} (F : Fun K x qual st f fd) (S : FnScope N ps (defScope st)) (hm : ms.length = ps.length) (hn : ps.length ≤ N.length)
    (hb : ∀ (cdv : Value) (A : Around) (outer : List Env) (s : Shared) (H : Hp) (E : XK) (p : Addr × Obj), L2H.RoomH k (A.deeper (PyProof.Rows.envOfC qual (defScope st) s.heap.objs.size f cdv)) →
      PSs (L2H.cxH (L2.CX P w) P w K mg base N qual (defScope st) f cdv A outer s H E p) (defBody st) (sD (cfE K cm rm E) [] (G0 ms N.length) G' Fb)) :
    FnW P w K mg base (L2.CX P w) (k + 1) f fd ps (spD K cm ms rm (runF N.length rm Fb)) := by
  refine Fun.okW F S (fun vs H Q E h => ?_) (fun cdv A outer s H vs Q E p hr h => ?_)
  · obtain ⟨S, ds, _, m, _⟩ := h
    rw [m.len.1, hm]
  · obtain ⟨S, ds, ex, m, q⟩ := h
    refine ⟨_, hb cdv A outer s H E p hr, S, H, S, startR N.length ds, env_start ex (RpM.cf (c := ⟨K, cm, fun _ _ _ _ => False, none, rm⟩) (c' := cfE K cm rm E) rfl rfl m) (by omega), ?_⟩
    unfold runF at q
    cases hF : Fb (startR N.length ds) with
    | rt d =>
      rw [hF] at q
      show PostS _ _ _ _ _ (.rt d) _
      unfold PostS
      dsimp only
      cases rm with
      | true => exact fun p ho S' H' fw n ns hp hh => q S' H' fw _ ⟨p, ho, rfl, n, ns, hp, hh⟩
      | false => exact fun v S' H' fw hv => q S' H' fw v hv
    | nx r =>
      rw [hF] at q
      cases rm with
      | true => exact q.elim
      | false => exact fun σ' S' H' ok => q S' H' ok.fwd _ Rp.non
    | er r n ns vs =>
      rw [hF] at q
      exact fun C dd σ' S' H' fs h1 fw _ h2 h3 h4 => q C dd S' H' fs h1 fw h2 h3 h4
    | bk r => rw [hF] at q; exact q.elim
    | ct r => rw [hF] at q; exact q.elim
    | bad => rw [hF] at q; exact q.elim
end
end Dx
end S_DxAL
section S_DxAM
set_option Elab.async false
set_option linter.all false
set_option maxRecDepth 100000
set_option maxHeartbeats 2000000
namespace Dx
open PySem L2 ItX
end Dx
end S_DxAM
section S_DxAN
set_option Elab.async false
set_option linter.all false
set_option maxRecDepth 100000
set_option maxHeartbeats 2000000
namespace Dx
open PySem L2 ItX
open PyProof.Rows hiding St
end Dx
end S_DxAN
section S_DxAO
set_option Elab.async false
set_option linter.all false
set_option maxRecDepth 100000
set_option maxHeartbeats 2000000
namespace Dx
open PySem L2 ItX
open PyProof.Rows hiding St
def rem (H : Hp) (p : Addr) : Hp := fun a => if a = p then none else H a
theorem rem_ne {H : Hp} {p a : Addr} (h : a ≠ p) : rem H p a = H a := if_neg h
theorem Ex.rem {S H : Hp} {p : Addr} (e : Ex S H) (n : S p = none) : Ex S (rem H p) := fun a o h => by
  have : a ≠ p := fun z => by subst z; rw [n] at h; cases h
  rw [rem_ne this]; exact e a o h
section
variable {c : Cf} {S0 H0 S H S' H' : Hp} {G : List Ow} {σ : St} {r : Rho}
/-- the own object in slot i is given away -/
theorem EnvOk.take (e : EnvOk c S0 H0 G S H σ r) {i : Nat} {d : D} {p : Addr} (k : kd G i = .o) (h : r[i]? = some (some d)) (hs : σ[i]? = some (some (.ref p))) (s3 : S p = none) (s4 : H0 p = none) : EnvOk c S0 H0 (G.set i .v) S (rem H p) σ (r.set i none) := by
  have sl : ∀ {j : Nat} {b : D}, (r.set i none)[j]? = some (some b) → i ≠ j ∧ r[j]? = some (some b) := fun {j b} hb => by
    rcases set_some hb with ⟨_, ea, _⟩ | ⟨ne, hb⟩
    · cases ea
    · exact ⟨ne, hb⟩
  refine ⟨⟨e.fwd.s, e.fwd.h.rem s4, e.fwd.sub.rem s3, e.fwd.new⟩, by rw [List.length_set]; exact e.len, fun j b hb => ?_, fun j l b b' q hj hl kj kl sj sl' => ?_, let ⟨A, hA⟩ := e.sto; ⟨A, ?_⟩⟩
  · obtain ⟨ne, hb⟩ := sl hb
    obtain ⟨v, h1, h2⟩ := e.slot j b hb
    refine ⟨v, h1, ?_⟩
    rw [kd_set_ne ne]
    cases kj : kd G j with
    | o =>
      rw [kj] at h2
      obtain ⟨q, ho, z1, z2, z3, z4, z5⟩ := h2
      subst z1
      have hq : q ≠ p := fun z => by subst z; exact ne (e.sep i j d b q h hb (isO_o k) (isO_o kj) hs h1)
      exact ⟨q, ho, rfl, by rw [rem_ne hq]; exact z2, z3, z4, z5⟩
    | i a =>
      rw [kj] at h2
      obtain ⟨z0, q, ho, z1, z2, z3, z4, z5⟩ := h2
      subst z1
      have hq : q ≠ p := fun z => by subst z; exact ne (e.sep i j d b q h hb (isO_o k) (by rw [kj]; trivial) hs h1)
      exact ⟨z0, q, ho, rfl, by rw [rem_ne hq]; exact z2, z3, z4, z5⟩
    | v => rw [kj] at h2; exact h2
    | b => rw [kj] at h2; exact h2
    | s P => rw [kj] at h2; exact h2
    | w => rw [kj] at h2; exact h2
    | x a C dd => rw [kj] at h2; exact h2
  · obtain ⟨n1, hj⟩ := sl hj
    obtain ⟨n2, hl⟩ := sl hl
    rw [kd_set_ne n1] at kj
    rw [kd_set_ne n2] at kl
    exact e.sep j l b b' q hj hl kj kl sj sl'
  · have np : ∀ a ∈ A, a ≠ p := fun a ha z => hA.own i d p h (isO_o k) hs (z ▸ ha)
    refine hA.sub (fun a ha => (hA.out a ha).1) (fun a ha => rem_ne (np a ha)) Ex.refl (fun j b q hj kj sj => ?_) fun j b kj hj => ?_
    · obtain ⟨n1, hj⟩ := sl hj
      rw [kd_set_ne n1] at kj
      exact hA.own j b q hj kj sj
    · obtain ⟨n1, hj⟩ := sl hj
      rw [kd_set_ne n1]
      exact ⟨rfl, hj, rfl⟩
end
end Dx
end S_DxAO
section S_DxAP
set_option Elab.async false
set_option linter.all false
set_option maxRecDepth 100000
set_option maxHeartbeats 2000000
namespace PySem
namespace F
theorem typeCall_zip_4 (a b c d : Value) : checkTypeCall "zip" ⟨[a, b, c, d], []⟩ = pure () := by kernel_rfl
theorem newCall_zip_4 (a b c d : Value) : checkBuiltinCall "zip.__new__" ⟨[.type "zip", a, b, c, d], []⟩ = pure () := by kernel_rfl
theorem args_object_init_5 (a b c d e : Value) : argsOk "object.__init__" ⟨[a, b, c, d, e], []⟩ := by
  unfold argsOk; rw [signature?_of (id := "object.__init__") (n := ['_', '_', 't', 'i', 'n', 'i', '_', '_']) (o := ['t', 'c', 'e', 'j', 'b', 'o']) (by kernel_rfl) owner_object]; kernel_rfl
end F
end PySem
namespace RZ
open PySem
open PySem.Sem (wp)
section
variable {prog : Program} {w : World} {A : Around} {E : Value → Shared → Prop} {s : Shared}
structure Zap (z TI TO i1 i2 i3 i4 l1 l2 l3 l4 : Addr) : Prop where
  n_TI_z : TI ≠ z
  n_TI_TO : TI ≠ TO
  n_TI_i1 : TI ≠ i1
  n_TI_i2 : TI ≠ i2
  n_TI_i3 : TI ≠ i3
  n_TI_i4 : TI ≠ i4
  n_TO_z : TO ≠ z
  n_TO_i1 : TO ≠ i1
  n_TO_i2 : TO ≠ i2
  n_TO_i3 : TO ≠ i3
  n_TO_i4 : TO ≠ i4
  n_z_TO : z ≠ TO
  n_z_i1 : z ≠ i1
  n_z_i2 : z ≠ i2
  n_z_i3 : z ≠ i3
  n_z_i4 : z ≠ i4
  n_i1_z : i1 ≠ z
  n_i1_TO : i1 ≠ TO
  n_i1_i2 : i1 ≠ i2
  n_i1_i3 : i1 ≠ i3
  n_i1_i4 : i1 ≠ i4
  n_i2_z : i2 ≠ z
  n_i2_TO : i2 ≠ TO
  n_i2_i1 : i2 ≠ i1
  n_i2_i3 : i2 ≠ i3
  n_i2_i4 : i2 ≠ i4
  n_i3_z : i3 ≠ z
  n_i3_TO : i3 ≠ TO
  n_i3_i1 : i3 ≠ i1
  n_i3_i2 : i3 ≠ i2
  n_i3_i4 : i3 ≠ i4
  n_i4_z : i4 ≠ z
  n_i4_TO : i4 ≠ TO
  n_i4_i1 : i4 ≠ i1
  n_i4_i2 : i4 ≠ i2
  n_i4_i3 : i4 ≠ i3
  n_l1_z : l1 ≠ z
  n_l1_TO : l1 ≠ TO
  n_l1_i1 : l1 ≠ i1
  n_l1_i2 : l1 ≠ i2
  n_l1_i3 : l1 ≠ i3
  n_l1_i4 : l1 ≠ i4
  n_l2_z : l2 ≠ z
  n_l2_TO : l2 ≠ TO
  n_l2_i1 : l2 ≠ i1
  n_l2_i2 : l2 ≠ i2
  n_l2_i3 : l2 ≠ i3
  n_l2_i4 : l2 ≠ i4
  n_l3_z : l3 ≠ z
  n_l3_TO : l3 ≠ TO
  n_l3_i1 : l3 ≠ i1
  n_l3_i2 : l3 ≠ i2
  n_l3_i3 : l3 ≠ i3
  n_l3_i4 : l3 ≠ i4
  n_l4_z : l4 ≠ z
  n_l4_TO : l4 ≠ TO
  n_l4_i1 : l4 ≠ i1
  n_l4_i2 : l4 ≠ i2
  n_l4_i3 : l4 ≠ i3
  n_l4_i4 : l4 ≠ i4
abbrev IsSeq (h : Heap) (T : Addr) (xs : Array Value) : Prop := h.get? T = some { cls := .type "tuple", data := .seq xs }
theorem updateSeq_seq {T : Addr} {xs : Array Value} {x : Value} {k : Nat} {Q : Unit → Shared → Prop} (hn : xs.size ≤ sizeLine) (hT : IsSeq s.heap T xs)
    (h : ∀ h', IsSeq h' T (xs.setIfInBounds k x) → Heap.SameBut T s.heap h' → Q () { s with heap := h' }) :
    wpAny (model prog w) A (updateSeq T (·.setIfInBounds k x)) Q E s := by
  refine wpAny_updateSeq hT rfl (h _ ?_ (Heap.SameBut.update ..)) (hz := hn)
  show (s.heap.update T _).get? T = _
  rw [Heap.get?_update_self _ hT rfl]
  simp [Obj.mapSeq]
theorem zip4_next_item {z TI TO i1 i2 i3 i4 l1 l2 l3 l4 : Addr} {k : Nat} {xs1 xs2 xs3 xs4 : Array Value} {a1 a2 a3 a4 : Value} {x1 x2 x3 x4 : Value} {Q : Value → Shared → Prop} (D : Zap z TI TO i1 i2 i3 i4 l1 l2 l3 l4)
    (hz : IsZip s.heap z TI TO .none) (hTI : IsSeq s.heap TI #[.ref i1, .ref i2, .ref i3, .ref i4]) (hTO : IsSeq s.heap TO #[a1, a2, a3, a4])
    (h1 : s.heap.IsTupleIter i1 l1 k) (h2 : s.heap.IsTupleIter i2 l2 k) (h3 : s.heap.IsTupleIter i3 l3 k) (h4 : s.heap.IsTupleIter i4 l4 k)
    (q1 : s.heap.IsTuple l1 xs1) (q2 : s.heap.IsTuple l2 xs2) (q3 : s.heap.IsTuple l3 xs3) (q4 : s.heap.IsTuple l4 xs4)
    (e1 : xs1[k]? = some x1) (e2 : xs2[k]? = some x2) (e3 : xs3[k]? = some x3) (e4 : xs4[k]? = some x4)
    (hQ : ∀ h', IsZip h' z TI TO (rawInt s.heap.objs.size) → IsSeq h' TO #[x1, x2, x3, x4] → h'.IsTupleIter i1 l1 (k + 1) → h'.IsTupleIter i2 l2 (k + 1) → h'.IsTupleIter i3 l3 (k + 1) → h'.IsTupleIter i4 l4 (k + 1) → IsSeq h' s.heap.objs.size #[x1, x2, x3, x4] → h'.objs.size = s.heap.objs.size + 1 →
      (∀ c o, c ≠ z → c ≠ TO → c ≠ i1 → c ≠ i2 → c ≠ i3 → c ≠ i4 → s.heap.get? c = some o → h'.get? c = some o) → Q (.ref s.heap.objs.size) { s with heap := h' }) :
    wpAny (model prog w) A (Builtin.«zip.__next__» ⟨[.ref z], []⟩) (fun fin s' => ∃ v, fin = .done (.ret v) ∧ Q v s') E s := by
  show wpAny _ _ (field (.ref z) 2 >>= _) _ _ _
  refine wpAny_bind (wpAny_field hz rfl (x := .bool false) rfl ?_)
  show wpAny _ _ (field (.ref z) 3 >>= _) _ _ _
  refine wpAny_bind (wpAny_field hz rfl (x := .ref TI) rfl ?_)
  refine wpAny_bind (wpAny_seqItems hTI rfl ?_)
  show wpAny _ _ (Builtin.SmallTypes.ownedTupleIsFree (.ref z) >>= _) _ _ _
  refine wpAny_bind ?_
  unfold Builtin.SmallTypes.ownedTupleIsFree
  refine wpAny_bind (wpAny_field hz rfl (x := .none) rfl (wpAny_pure ?_))
  simp only [if_true]
  refine wpAny_bind (wpAny_rule ?_)
  refine wpAny_bind (wpAny_field hz rfl (x := .ref TO) rfl ?_)
  refine wpAny_bind (wpAny_setField_rec hz (by simp) fun g0 hz0 hs0 => ?_)
  replace hz0 : IsZip g0 z TI TO .ellipsis := hz0
  refine wpAny_bind ?_
  simp only [List.zipIdx_cons, List.zipIdx_nil, List.forIn_cons, List.forIn_nil]
  refine wpAny_bind (wpAny_bind (wpAny_onRaise ?_))
  show wpAny _ _ (Builtin.SmallTypes.nextOf (.ref i1) >>= _) _ _ _
  refine wpAny_bind (nextOf_tuple_item (h1.extBut hs0.extBut D.n_i1_z) (q1.extBut hs0.extBut D.n_l1_z) e1 fun n1 hn1 hsn1 => wpAny_pure ?_)
  have hTOn1 : IsSeq n1 TO #[a1, a2, a3, a4] := (hsn1.extBut _ _ D.n_TO_i1 (hs0.extBut _ _ D.n_TO_z hTO))
  refine wpAny_bind (wpAny_seqItems hTOn1 rfl ?_)
  refine wpAny_bind (updateSeq_seq (by show 4 ≤ sizeLine; decide) hTOn1 fun u1 hTOu1 hsu1 => ?_)
  replace hTOu1 : IsSeq u1 TO #[x1, a2, a3, a4] := hTOu1
  refine wpAny_bind (wpAny_letGo (wpAny_pure ?_))
  refine wpAny_bind (wpAny_bind (wpAny_onRaise ?_))
  show wpAny _ _ (Builtin.SmallTypes.nextOf (.ref i2) >>= _) _ _ _
  refine wpAny_bind (nextOf_tuple_item (((h2.extBut hs0.extBut D.n_i2_z).extBut hsn1.extBut D.n_i2_i1).extBut hsu1.extBut D.n_i2_TO) (((q2.extBut hs0.extBut D.n_l2_z).extBut hsn1.extBut D.n_l2_i1).extBut hsu1.extBut D.n_l2_TO) e2 fun n2 hn2 hsn2 => wpAny_pure ?_)
  have hTOn2 : IsSeq n2 TO #[x1, a2, a3, a4] := (hsn2.extBut _ _ D.n_TO_i2 hTOu1)
  refine wpAny_bind (wpAny_seqItems hTOn2 rfl ?_)
  refine wpAny_bind (updateSeq_seq (by show 4 ≤ sizeLine; decide) hTOn2 fun u2 hTOu2 hsu2 => ?_)
  replace hTOu2 : IsSeq u2 TO #[x1, x2, a3, a4] := hTOu2
  refine wpAny_bind (wpAny_letGo (wpAny_pure ?_))
  refine wpAny_bind (wpAny_bind (wpAny_onRaise ?_))
  show wpAny _ _ (Builtin.SmallTypes.nextOf (.ref i3) >>= _) _ _ _
  refine wpAny_bind (nextOf_tuple_item (((((h3.extBut hs0.extBut D.n_i3_z).extBut hsn1.extBut D.n_i3_i1).extBut hsu1.extBut D.n_i3_TO).extBut hsn2.extBut D.n_i3_i2).extBut hsu2.extBut D.n_i3_TO) (((((q3.extBut hs0.extBut D.n_l3_z).extBut hsn1.extBut D.n_l3_i1).extBut hsu1.extBut D.n_l3_TO).extBut hsn2.extBut D.n_l3_i2).extBut hsu2.extBut D.n_l3_TO) e3 fun n3 hn3 hsn3 => wpAny_pure ?_)
  have hTOn3 : IsSeq n3 TO #[x1, x2, a3, a4] := (hsn3.extBut _ _ D.n_TO_i3 hTOu2)
  refine wpAny_bind (wpAny_seqItems hTOn3 rfl ?_)
  refine wpAny_bind (updateSeq_seq (by show 4 ≤ sizeLine; decide) hTOn3 fun u3 hTOu3 hsu3 => ?_)
  replace hTOu3 : IsSeq u3 TO #[x1, x2, x3, a4] := hTOu3
  refine wpAny_bind (wpAny_letGo (wpAny_pure ?_))
  refine wpAny_bind (wpAny_bind (wpAny_onRaise ?_))
  show wpAny _ _ (Builtin.SmallTypes.nextOf (.ref i4) >>= _) _ _ _
  refine wpAny_bind (nextOf_tuple_item (((((((h4.extBut hs0.extBut D.n_i4_z).extBut hsn1.extBut D.n_i4_i1).extBut hsu1.extBut D.n_i4_TO).extBut hsn2.extBut D.n_i4_i2).extBut hsu2.extBut D.n_i4_TO).extBut hsn3.extBut D.n_i4_i3).extBut hsu3.extBut D.n_i4_TO) (((((((q4.extBut hs0.extBut D.n_l4_z).extBut hsn1.extBut D.n_l4_i1).extBut hsu1.extBut D.n_l4_TO).extBut hsn2.extBut D.n_l4_i2).extBut hsu2.extBut D.n_l4_TO).extBut hsn3.extBut D.n_l4_i3).extBut hsu3.extBut D.n_l4_TO) e4 fun n4 hn4 hsn4 => wpAny_pure ?_)
  have hTOn4 : IsSeq n4 TO #[x1, x2, x3, a4] := (hsn4.extBut _ _ D.n_TO_i4 hTOu3)
  refine wpAny_bind (wpAny_seqItems hTOn4 rfl ?_)
  refine wpAny_bind (updateSeq_seq (by show 4 ≤ sizeLine; decide) hTOn4 fun u4 hTOu4 hsu4 => ?_)
  replace hTOu4 : IsSeq u4 TO #[x1, x2, x3, x4] := hTOu4
  refine wpAny_bind (wpAny_letGo (wpAny_pure (wpAny_pure ?_)))
  refine wpAny_bind (wpAny_seqItems hTOu4 rfl ?_)
  refine wpAny_bind (wpAny_newTuple ?_)
  have hsz : u4.objs.size = s.heap.objs.size := by rw [hsu4.1, hsn4.1, hsu3.1, hsn3.1, hsu2.1, hsn2.1, hsu1.1, hsn1.1, hs0.1]
  have hzL : IsZip u4 z TI TO .ellipsis := (hsu4.extBut _ _ D.n_z_TO (hsn4.extBut _ _ D.n_z_i4 (hsu3.extBut _ _ D.n_z_TO (hsn3.extBut _ _ D.n_z_i3 (hsu2.extBut _ _ D.n_z_TO (hsn2.extBut _ _ D.n_z_i2 (hsu1.extBut _ _ D.n_z_TO (hsn1.extBut _ _ D.n_z_i1 hz0))))))))
  have hkL : ∀ c o, c ≠ z → c ≠ TO → c ≠ i1 → c ≠ i2 → c ≠ i3 → c ≠ i4 → s.heap.get? c = some o → u4.get? c = some o := fun c o c1 c2 d1 d2 d3 d4 e => (hsu4.extBut _ _ c2 (hsn4.extBut _ _ d4 (hsu3.extBut _ _ c2 (hsn3.extBut _ _ d3 (hsu2.extBut _ _ c2 (hsn2.extBut _ _ d2 (hsu1.extBut _ _ c2 (hsn1.extBut _ _ d1 (hs0.extBut _ _ c1 e)))))))))
  have hL1 : u4.IsTupleIter i1 l1 (k + 1) := (((((((hn1.extBut hsu1.extBut D.n_i1_TO).extBut hsn2.extBut D.n_i1_i2).extBut hsu2.extBut D.n_i1_TO).extBut hsn3.extBut D.n_i1_i3).extBut hsu3.extBut D.n_i1_TO).extBut hsn4.extBut D.n_i1_i4).extBut hsu4.extBut D.n_i1_TO)
  have hL2 : u4.IsTupleIter i2 l2 (k + 1) := (((((hn2.extBut hsu2.extBut D.n_i2_TO).extBut hsn3.extBut D.n_i2_i3).extBut hsu3.extBut D.n_i2_TO).extBut hsn4.extBut D.n_i2_i4).extBut hsu4.extBut D.n_i2_TO)
  have hL3 : u4.IsTupleIter i3 l3 (k + 1) := (((hn3.extBut hsu3.extBut D.n_i3_TO).extBut hsn4.extBut D.n_i3_i4).extBut hsu4.extBut D.n_i3_TO)
  have hL4 : u4.IsTupleIter i4 l4 (k + 1) := (hn4.extBut hsu4.extBut D.n_i4_TO)
  have hzlt : z < u4.objs.size := Heap.lt_size hzL
  have hTOlt : TO < u4.objs.size := Heap.lt_size hTOu4
  show wpAny _ _ (Builtin.SmallTypes.ownedTupleHandOut (.ref z) (.ref u4.objs.size) >>= _) _ _ _
  refine wpAny_bind ?_
  unfold Builtin.SmallTypes.ownedTupleHandOut
  have hz6 : IsZip (u4.push { cls := .type "tuple", data := .seq #[x1, x2, x3, x4] }) z TI TO .ellipsis := Heap.get?_push_of_some _ hzL
  refine wpAny_bind (wpAny_setField_rec hz6 (by simp) fun h7 hz7 hs7 => ?_)
  replace hz7 : IsZip h7 z TI TO (rawInt u4.objs.size) := hz7
  refine wpAny_setField_rec hz7 (by simp) fun h8 hz8 hs8 => ?_
  replace hz8 : IsZip h8 z TI TO (rawInt u4.objs.size) := hz8
  have up : ∀ c o, c ≠ z → u4.get? c = some o → h8.get? c = some o := fun c o c1 e => hs8.extBut _ _ c1 (hs7.extBut _ _ c1 (Heap.get?_push_of_some _ e))
  have hT8 : IsSeq h8 u4.objs.size #[x1, x2, x3, x4] := hs8.extBut _ _ (Nat.ne_of_gt hzlt) (hs7.extBut _ _ (Nat.ne_of_gt hzlt) (Heap.get?_push_size _ rfl))
  have hz9 : h8.objs.size = u4.objs.size + 1 := by rw [hs8.1, hs7.1, Heap.size_push]
  rw [hsz] at hz8 hT8 hz9
  refine wpAny_pure ⟨_, rfl, ?_⟩
  show Q (.ref u4.objs.size) _
  rw [hsz]
  exact hQ h8 hz8 (up _ _ D.n_TO_z hTOu4) (hL1.at fun o e => up _ o D.n_i1_z e) (hL2.at fun o e => up _ o D.n_i2_z e) (hL3.at fun o e => up _ o D.n_i3_z e) (hL4.at fun o e => up _ o D.n_i4_z e) hT8 hz9 fun c o c1 c2 d1 d2 d3 d4 e => up c o c1 (hkL c o c1 c2 d1 d2 d3 d4 e)
theorem zip4_next_end {z TI TO i1 i2 i3 i4 l1 l2 l3 l4 : Addr} {k : Nat} {xs1 xs2 xs3 xs4 : Array Value} {a1 a2 a3 a4 : Value} {Q : Fin → Shared → Prop} (hh : A.handled = none) (D : Zap z TI TO i1 i2 i3 i4 l1 l2 l3 l4)
    (hz : IsZip s.heap z TI TO .none) (hTI : IsSeq s.heap TI #[.ref i1, .ref i2, .ref i3, .ref i4]) (hTO : IsSeq s.heap TO #[a1, a2, a3, a4])
    (h1 : s.heap.IsTupleIter i1 l1 k) (h2 : s.heap.IsTupleIter i2 l2 k) (h3 : s.heap.IsTupleIter i3 l3 k) (h4 : s.heap.IsTupleIter i4 l4 k)
    (q1 : s.heap.IsTuple l1 xs1) (q2 : s.heap.IsTuple l2 xs2) (q3 : s.heap.IsTuple l3 xs3) (q4 : s.heap.IsTuple l4 xs4)
    (hend : xs1[k]? = none ∨ xs2[k]? = none ∨ xs3[k]? = none ∨ xs4[k]? = none)
    (hE : ∀ h' e, (∀ c o, c ≠ z → c ≠ TO → c ≠ i1 → c ≠ i2 → c ≠ i3 → c ≠ i4 → s.heap.get? c = some o → h'.get? c = some o) → (∃ o, h'.get? e = some o ∧ o.cls = .type "StopIteration") → E (.ref e) { s with heap := h' }) :
    wpAny (model prog w) A (Builtin.«zip.__next__» ⟨[.ref z], []⟩) Q E s := by
  show wpAny _ _ (field (.ref z) 2 >>= _) _ _ _
  refine wpAny_bind (wpAny_field hz rfl (x := .bool false) rfl ?_)
  show wpAny _ _ (field (.ref z) 3 >>= _) _ _ _
  refine wpAny_bind (wpAny_field hz rfl (x := .ref TI) rfl ?_)
  refine wpAny_bind (wpAny_seqItems hTI rfl ?_)
  show wpAny _ _ (Builtin.SmallTypes.ownedTupleIsFree (.ref z) >>= _) _ _ _
  refine wpAny_bind ?_
  unfold Builtin.SmallTypes.ownedTupleIsFree
  refine wpAny_bind (wpAny_field hz rfl (x := .none) rfl (wpAny_pure ?_))
  simp only [if_true]
  refine wpAny_bind (wpAny_rule ?_)
  refine wpAny_bind (wpAny_field hz rfl (x := .ref TO) rfl ?_)
  refine wpAny_bind (wpAny_setField_rec hz (by simp) fun g0 hz0 hs0 => ?_)
  replace hz0 : IsZip g0 z TI TO .ellipsis := hz0
  refine wpAny_bind ?_
  simp only [List.zipIdx_cons, List.zipIdx_nil, List.forIn_cons, List.forIn_nil]
  refine wpAny_bind (wpAny_bind (wpAny_onRaise ?_))
  show wpAny _ _ (Builtin.SmallTypes.nextOf (.ref i1) >>= _) _ _ _
  cases e1 : xs1[k]? with
  | none =>
    refine wpAny_bind (nextOf_tuple_end hh (h1.extBut hs0.extBut D.n_i1_z) (q1.extBut hs0.extBut D.n_l1_z) e1 fun hf e EX he => ?_)
    obtain ⟨oe, hoe, hce⟩ := he
    have hzf : IsZip hf z TI TO .ellipsis := (EX _ _ D.n_z_i1 hz0)
    have hez : e ≠ z := fun x => by subst x; rw [hzf] at hoe; cases hoe; simp at hce
    refine wpAny_setField_rec hzf (by simp) fun hg _ hsg => hE hg e (fun c o c1 c2 d1 d2 d3 d4 x => hsg.extBut _ _ c1 (EX _ _ d1 (hs0.extBut _ _ c1 x))) ⟨oe, hsg.extBut _ _ hez hoe, hce⟩
  | some x1 =>
    refine wpAny_bind (nextOf_tuple_item (h1.extBut hs0.extBut D.n_i1_z) (q1.extBut hs0.extBut D.n_l1_z) e1 fun n1 hn1 hsn1 => wpAny_pure ?_)
    have hTOn1 : IsSeq n1 TO #[a1, a2, a3, a4] := (hsn1.extBut _ _ D.n_TO_i1 (hs0.extBut _ _ D.n_TO_z hTO))
    refine wpAny_bind (wpAny_seqItems hTOn1 rfl ?_)
    refine wpAny_bind (updateSeq_seq (by show 4 ≤ sizeLine; decide) hTOn1 fun u1 hTOu1 hsu1 => ?_)
    replace hTOu1 : IsSeq u1 TO #[x1, a2, a3, a4] := hTOu1
    refine wpAny_bind (wpAny_letGo (wpAny_pure ?_))
    refine wpAny_bind (wpAny_bind (wpAny_onRaise ?_))
    show wpAny _ _ (Builtin.SmallTypes.nextOf (.ref i2) >>= _) _ _ _
    cases e2 : xs2[k]? with
    | none =>
      refine wpAny_bind (nextOf_tuple_end hh (((h2.extBut hs0.extBut D.n_i2_z).extBut hsn1.extBut D.n_i2_i1).extBut hsu1.extBut D.n_i2_TO) (((q2.extBut hs0.extBut D.n_l2_z).extBut hsn1.extBut D.n_l2_i1).extBut hsu1.extBut D.n_l2_TO) e2 fun hf e EX he => ?_)
      obtain ⟨oe, hoe, hce⟩ := he
      have hzf : IsZip hf z TI TO .ellipsis := (EX _ _ D.n_z_i2 (hsu1.extBut _ _ D.n_z_TO (hsn1.extBut _ _ D.n_z_i1 hz0)))
      have hez : e ≠ z := fun x => by subst x; rw [hzf] at hoe; cases hoe; simp at hce
      refine wpAny_setField_rec hzf (by simp) fun hg _ hsg => hE hg e (fun c o c1 c2 d1 d2 d3 d4 x => hsg.extBut _ _ c1 (EX _ _ d2 (hsu1.extBut _ _ c2 (hsn1.extBut _ _ d1 (hs0.extBut _ _ c1 x))))) ⟨oe, hsg.extBut _ _ hez hoe, hce⟩
    | some x2 =>
      refine wpAny_bind (nextOf_tuple_item (((h2.extBut hs0.extBut D.n_i2_z).extBut hsn1.extBut D.n_i2_i1).extBut hsu1.extBut D.n_i2_TO) (((q2.extBut hs0.extBut D.n_l2_z).extBut hsn1.extBut D.n_l2_i1).extBut hsu1.extBut D.n_l2_TO) e2 fun n2 hn2 hsn2 => wpAny_pure ?_)
      have hTOn2 : IsSeq n2 TO #[x1, a2, a3, a4] := (hsn2.extBut _ _ D.n_TO_i2 hTOu1)
      refine wpAny_bind (wpAny_seqItems hTOn2 rfl ?_)
      refine wpAny_bind (updateSeq_seq (by show 4 ≤ sizeLine; decide) hTOn2 fun u2 hTOu2 hsu2 => ?_)
      replace hTOu2 : IsSeq u2 TO #[x1, x2, a3, a4] := hTOu2
      refine wpAny_bind (wpAny_letGo (wpAny_pure ?_))
      refine wpAny_bind (wpAny_bind (wpAny_onRaise ?_))
      show wpAny _ _ (Builtin.SmallTypes.nextOf (.ref i3) >>= _) _ _ _
      cases e3 : xs3[k]? with
      | none =>
        refine wpAny_bind (nextOf_tuple_end hh (((((h3.extBut hs0.extBut D.n_i3_z).extBut hsn1.extBut D.n_i3_i1).extBut hsu1.extBut D.n_i3_TO).extBut hsn2.extBut D.n_i3_i2).extBut hsu2.extBut D.n_i3_TO) (((((q3.extBut hs0.extBut D.n_l3_z).extBut hsn1.extBut D.n_l3_i1).extBut hsu1.extBut D.n_l3_TO).extBut hsn2.extBut D.n_l3_i2).extBut hsu2.extBut D.n_l3_TO) e3 fun hf e EX he => ?_)
        obtain ⟨oe, hoe, hce⟩ := he
        have hzf : IsZip hf z TI TO .ellipsis := (EX _ _ D.n_z_i3 (hsu2.extBut _ _ D.n_z_TO (hsn2.extBut _ _ D.n_z_i2 (hsu1.extBut _ _ D.n_z_TO (hsn1.extBut _ _ D.n_z_i1 hz0)))))
        have hez : e ≠ z := fun x => by subst x; rw [hzf] at hoe; cases hoe; simp at hce
        refine wpAny_setField_rec hzf (by simp) fun hg _ hsg => hE hg e (fun c o c1 c2 d1 d2 d3 d4 x => hsg.extBut _ _ c1 (EX _ _ d3 (hsu2.extBut _ _ c2 (hsn2.extBut _ _ d2 (hsu1.extBut _ _ c2 (hsn1.extBut _ _ d1 (hs0.extBut _ _ c1 x))))))) ⟨oe, hsg.extBut _ _ hez hoe, hce⟩
      | some x3 =>
        refine wpAny_bind (nextOf_tuple_item (((((h3.extBut hs0.extBut D.n_i3_z).extBut hsn1.extBut D.n_i3_i1).extBut hsu1.extBut D.n_i3_TO).extBut hsn2.extBut D.n_i3_i2).extBut hsu2.extBut D.n_i3_TO) (((((q3.extBut hs0.extBut D.n_l3_z).extBut hsn1.extBut D.n_l3_i1).extBut hsu1.extBut D.n_l3_TO).extBut hsn2.extBut D.n_l3_i2).extBut hsu2.extBut D.n_l3_TO) e3 fun n3 hn3 hsn3 => wpAny_pure ?_)
        have hTOn3 : IsSeq n3 TO #[x1, x2, a3, a4] := (hsn3.extBut _ _ D.n_TO_i3 hTOu2)
        refine wpAny_bind (wpAny_seqItems hTOn3 rfl ?_)
        refine wpAny_bind (updateSeq_seq (by show 4 ≤ sizeLine; decide) hTOn3 fun u3 hTOu3 hsu3 => ?_)
        replace hTOu3 : IsSeq u3 TO #[x1, x2, x3, a4] := hTOu3
        refine wpAny_bind (wpAny_letGo (wpAny_pure ?_))
        refine wpAny_bind (wpAny_bind (wpAny_onRaise ?_))
        show wpAny _ _ (Builtin.SmallTypes.nextOf (.ref i4) >>= _) _ _ _
        cases e4 : xs4[k]? with
        | none =>
          refine wpAny_bind (nextOf_tuple_end hh (((((((h4.extBut hs0.extBut D.n_i4_z).extBut hsn1.extBut D.n_i4_i1).extBut hsu1.extBut D.n_i4_TO).extBut hsn2.extBut D.n_i4_i2).extBut hsu2.extBut D.n_i4_TO).extBut hsn3.extBut D.n_i4_i3).extBut hsu3.extBut D.n_i4_TO) (((((((q4.extBut hs0.extBut D.n_l4_z).extBut hsn1.extBut D.n_l4_i1).extBut hsu1.extBut D.n_l4_TO).extBut hsn2.extBut D.n_l4_i2).extBut hsu2.extBut D.n_l4_TO).extBut hsn3.extBut D.n_l4_i3).extBut hsu3.extBut D.n_l4_TO) e4 fun hf e EX he => ?_)
          obtain ⟨oe, hoe, hce⟩ := he
          have hzf : IsZip hf z TI TO .ellipsis := (EX _ _ D.n_z_i4 (hsu3.extBut _ _ D.n_z_TO (hsn3.extBut _ _ D.n_z_i3 (hsu2.extBut _ _ D.n_z_TO (hsn2.extBut _ _ D.n_z_i2 (hsu1.extBut _ _ D.n_z_TO (hsn1.extBut _ _ D.n_z_i1 hz0)))))))
          have hez : e ≠ z := fun x => by subst x; rw [hzf] at hoe; cases hoe; simp at hce
          refine wpAny_setField_rec hzf (by simp) fun hg _ hsg => hE hg e (fun c o c1 c2 d1 d2 d3 d4 x => hsg.extBut _ _ c1 (EX _ _ d4 (hsu3.extBut _ _ c2 (hsn3.extBut _ _ d3 (hsu2.extBut _ _ c2 (hsn2.extBut _ _ d2 (hsu1.extBut _ _ c2 (hsn1.extBut _ _ d1 (hs0.extBut _ _ c1 x))))))))) ⟨oe, hsg.extBut _ _ hez hoe, hce⟩
        | some x4 =>
          rcases hend with h | h | h | h
          · rw [e1] at h; cases h
          · rw [e2] at h; cases h
          · rw [e3] at h; cases h
          · rw [e4] at h; cases h
theorem pyNext_zip4_item {z TI TO i1 i2 i3 i4 l1 l2 l3 l4 : Addr} {k : Nat} {xs1 xs2 xs3 xs4 : Array Value} {a1 a2 a3 a4 : Value} {x1 x2 x3 x4 : Value} {Q : Option Value → Shared → Prop} (D : Zap z TI TO i1 i2 i3 i4 l1 l2 l3 l4)
    (hz : IsZip s.heap z TI TO .none) (hTI : IsSeq s.heap TI #[.ref i1, .ref i2, .ref i3, .ref i4]) (hTO : IsSeq s.heap TO #[a1, a2, a3, a4])
    (h1 : s.heap.IsTupleIter i1 l1 k) (h2 : s.heap.IsTupleIter i2 l2 k) (h3 : s.heap.IsTupleIter i3 l3 k) (h4 : s.heap.IsTupleIter i4 l4 k)
    (q1 : s.heap.IsTuple l1 xs1) (q2 : s.heap.IsTuple l2 xs2) (q3 : s.heap.IsTuple l3 xs3) (q4 : s.heap.IsTuple l4 xs4)
    (e1 : xs1[k]? = some x1) (e2 : xs2[k]? = some x2) (e3 : xs3[k]? = some x3) (e4 : xs4[k]? = some x4)
    (hQ : ∀ h', IsZip h' z TI TO (rawInt s.heap.objs.size) → IsSeq h' TO #[x1, x2, x3, x4] → h'.IsTupleIter i1 l1 (k + 1) → h'.IsTupleIter i2 l2 (k + 1) → h'.IsTupleIter i3 l3 (k + 1) → h'.IsTupleIter i4 l4 (k + 1) → IsSeq h' s.heap.objs.size #[x1, x2, x3, x4] → h'.objs.size = s.heap.objs.size + 1 →
      (∀ c o, c ≠ z → c ≠ TO → c ≠ i1 → c ≠ i2 → c ≠ i3 → c ≠ i4 → s.heap.get? c = some o → h'.get? c = some o) → Q (some (.ref s.heap.objs.size)) { s with heap := h' }) : wpAny (model prog w) A (pyNext (.ref z)) Q E s := by
  have hT : s.TypeIs (.ref z) "zip" := ⟨_, hz, rfl⟩
  unfold pyNext
  exact wpAny_bind (wpAny_attempt (wpAny_callSpecial?_slot (name := Str.ofString "__next__") hT F.slot_zip_next
    (wpAny_call_entry F.slot_zip_next hT F.entry_zip_next
      (zip4_next_item D hz hTI hTO h1 h2 h3 h4 q1 q2 q3 q4 e1 e2 e3 e4 fun h' b0 b1 b2 b3 b4 b5 b6 b7 b8 => wpAny_pure (hQ h' b0 b1 b2 b3 b4 b5 b6 b7 b8)) (F.args_zip_next_1 _))))
theorem pyNext_zip4_end {z TI TO i1 i2 i3 i4 l1 l2 l3 l4 : Addr} {k : Nat} {xs1 xs2 xs3 xs4 : Array Value} {a1 a2 a3 a4 : Value} {Q : Option Value → Shared → Prop} (hh : A.handled = none) (D : Zap z TI TO i1 i2 i3 i4 l1 l2 l3 l4)
    (hz : IsZip s.heap z TI TO .none) (hTI : IsSeq s.heap TI #[.ref i1, .ref i2, .ref i3, .ref i4]) (hTO : IsSeq s.heap TO #[a1, a2, a3, a4])
    (h1 : s.heap.IsTupleIter i1 l1 k) (h2 : s.heap.IsTupleIter i2 l2 k) (h3 : s.heap.IsTupleIter i3 l3 k) (h4 : s.heap.IsTupleIter i4 l4 k)
    (q1 : s.heap.IsTuple l1 xs1) (q2 : s.heap.IsTuple l2 xs2) (q3 : s.heap.IsTuple l3 xs3) (q4 : s.heap.IsTuple l4 xs4)
    (hend : xs1[k]? = none ∨ xs2[k]? = none ∨ xs3[k]? = none ∨ xs4[k]? = none)
    (hQ : ∀ h', (∀ c o, c ≠ z → c ≠ TO → c ≠ i1 → c ≠ i2 → c ≠ i3 → c ≠ i4 → s.heap.get? c = some o → h'.get? c = some o) → Q none { s with heap := h' }) : wpAny (model prog w) A (pyNext (.ref z)) Q E s := by
  have hT : s.TypeIs (.ref z) "zip" := ⟨_, hz, rfl⟩
  unfold pyNext
  refine wpAny_bind (wpAny_attempt (wpAny_callSpecial?_slot (name := Str.ofString "__next__") hT F.slot_zip_next
    (wpAny_call_entry F.slot_zip_next hT F.entry_zip_next (zip4_next_end hh D hz hTI hTO h1 h2 h3 h4 q1 q2 q3 q4 hend fun h' e hk he => ?_) (F.args_zip_next_1 _))))
  obtain ⟨o, ho, hc⟩ := he
  refine wpAny_bind (wpAny_isInstance (T := "StopIteration") (b := true) ⟨o, ho, hc⟩ isSubtype_stop ?_)
  exact wpAny_pure (hQ _ hk)
end
abbrev zip4H1 (h : Heap) (l1 : Addr) : Heap := h.push { cls := .type "tuple_iterator", data := .fields #[.ref l1, .int 0 0] }
abbrev zip4H2 (h : Heap) (l1 l2 : Addr) : Heap := (zip4H1 h l1).push { cls := .type "tuple_iterator", data := .fields #[.ref l2, .int 0 0] }
abbrev zip4H3 (h : Heap) (l1 l2 l3 : Addr) : Heap := (zip4H2 h l1 l2).push { cls := .type "tuple_iterator", data := .fields #[.ref l3, .int 0 0] }
abbrev zip4H4 (h : Heap) (l1 l2 l3 l4 : Addr) : Heap := (zip4H3 h l1 l2 l3).push { cls := .type "tuple_iterator", data := .fields #[.ref l4, .int 0 0] }
abbrev zip4H5 (h : Heap) (l1 l2 l3 l4 : Addr) : Heap := (zip4H4 h l1 l2 l3 l4).push { cls := .type "tuple", data := .seq #[.ref h.objs.size, .ref (zip4H1 h l1).objs.size, .ref (zip4H2 h l1 l2).objs.size, .ref (zip4H3 h l1 l2 l3).objs.size] }
abbrev zip4H6 (h : Heap) (l1 l2 l3 l4 : Addr) : Heap := (zip4H5 h l1 l2 l3 l4).push { cls := .type "tuple", data := .seq #[.none, .none, .none, .none] }
abbrev zip4H7 (h : Heap) (l1 l2 l3 l4 : Addr) : Heap := (zip4H6 h l1 l2 l3 l4).push { cls := .type "zip", data := .fields #[.none, .bool false, .bool false, .ref (zip4H4 h l1 l2 l3 l4).objs.size, .ref (zip4H5 h l1 l2 l3 l4).objs.size] }
theorem meets_zip4_new (l1 l2 l3 l4 : Addr) (xs1 xs2 xs3 xs4 : Array Value) :
    Meets (Builtin.«zip.__new__» ⟨[.type "zip", .ref l1, .ref l2, .ref l3, .ref l4], []⟩) (fun _ R s => s.heap.IsTuple l1 xs1 ∧ s.heap.IsTuple l2 xs2 ∧ s.heap.IsTuple l3 xs3 ∧ s.heap.IsTuple l4 xs4 ∧
      R (.ok (.ret (.ref (zip4H6 s.heap l1 l2 l3 l4).objs.size))) { s with heap := zip4H7 s.heap l1 l2 l3 l4 }) :=
  .of_wp fun prog w A R s h => by
    obtain ⟨hp, g, d, tk, os⟩ := s; obtain ⟨hl1, hl2, hl3, hl4, h⟩ := h
    have hsub := sub_zip
    have hL1 : Heap.IsTuple (Shared.heap ⟨hp, g, d, tk, os⟩) l1 xs1 := hl1
    have hL2 : Heap.IsTuple (Shared.heap ⟨zip4H1 hp l1, g, d, tk, os⟩) l2 xs2 := (Heap.IsTuple.push hl2 _)
    have hL3 : Heap.IsTuple (Shared.heap ⟨zip4H2 hp l1 l2, g, d, tk, os⟩) l3 xs3 := (Heap.IsTuple.push (Heap.IsTuple.push hl3 _) _)
    have hL4 : Heap.IsTuple (Shared.heap ⟨zip4H3 hp l1 l2 l3, g, d, tk, os⟩) l4 xs4 := (Heap.IsTuple.push (Heap.IsTuple.push (Heap.IsTuple.push hl4 _) _) _)
    wp_walk using wpAny_pyIter_tuple hL1, wpAny_pyIter_tuple hL2, wpAny_pyIter_tuple hL3, wpAny_pyIter_tuple hL4
    exact ⟨_, rfl, h⟩
section
variable {prog : Program} {w : World} {A : Around} {E : Value → Shared → Prop} {s : Shared}
theorem call_zip4 {l1 l2 l3 l4 : Addr} {xs1 xs2 xs3 xs4 : Array Value} {Q : Value → Shared → Prop} (hl1 : s.heap.IsTuple l1 xs1) (hl2 : s.heap.IsTuple l2 xs2) (hl3 : s.heap.IsTuple l3 xs3) (hl4 : s.heap.IsTuple l4 xs4)
    (h : ∀ h', IsZip h' (s.heap.objs.size + 6) (s.heap.objs.size + 4) (s.heap.objs.size + 5) .none → IsSeq h' (s.heap.objs.size + 4) #[.ref s.heap.objs.size, .ref (s.heap.objs.size + 1), .ref (s.heap.objs.size + 2), .ref (s.heap.objs.size + 3)] → IsSeq h' (s.heap.objs.size + 5) #[.none, .none, .none, .none] → h'.IsTupleIter s.heap.objs.size l1 0 → h'.IsTupleIter (s.heap.objs.size + 1) l2 0 → h'.IsTupleIter (s.heap.objs.size + 2) l3 0 → h'.IsTupleIter (s.heap.objs.size + 3) l4 0 → h'.objs.size = s.heap.objs.size + 7 →
      (∀ c o, s.heap.get? c = some o → h'.get? c = some o) → Q (.ref (s.heap.objs.size + 6)) { s with heap := h' }) :
    wpAny (model prog w) A (call (.type "zip") [.ref l1, .ref l2, .ref l3, .ref l4]) Q E s := by
  refine callType_new F.called_zip (by decide) (F.typeCall_zip_4 _ _ _ _) (F.newCall_zip_4 _ _ _ _) (fun obj => F.args_object_init_5 obj _ _ _ _) F.entry_zip_new
    (meets_zip4_new l1 l2 l3 l4 xs1 xs2 xs3 xs4) ⟨hl1, hl2, hl3, hl4, ?_⟩
  have z1 : (zip4H1 s.heap l1).objs.size = s.heap.objs.size + 1 := Heap.size_push ..
  have z2 : (zip4H2 s.heap l1 l2).objs.size = s.heap.objs.size + 2 := by rw [Heap.size_push, z1]
  have z3 : (zip4H3 s.heap l1 l2 l3).objs.size = s.heap.objs.size + 3 := by rw [Heap.size_push, z2]
  have z4 : (zip4H4 s.heap l1 l2 l3 l4).objs.size = s.heap.objs.size + 4 := by rw [Heap.size_push, z3]
  have z5 : (zip4H5 s.heap l1 l2 l3 l4).objs.size = s.heap.objs.size + 5 := by rw [Heap.size_push, z4]
  have z6 : (zip4H6 s.heap l1 l2 l3 l4).objs.size = s.heap.objs.size + 6 := by rw [Heap.size_push, z5]
  have z7 : (zip4H7 s.heap l1 l2 l3 l4).objs.size = s.heap.objs.size + 7 := by rw [Heap.size_push, z6]
  have g1 : (zip4H7 s.heap l1 l2 l3 l4).get? s.heap.objs.size = some _ := (Heap.get?_push_of_some _ (Heap.get?_push_of_some _ (Heap.get?_push_of_some _ (Heap.get?_push_of_some _ (Heap.get?_push_of_some _ (Heap.get?_push_of_some _ (Heap.get?_push_size _ rfl)))))))
  have g2 : (zip4H7 s.heap l1 l2 l3 l4).get? (zip4H1 s.heap l1).objs.size = some _ := (Heap.get?_push_of_some _ (Heap.get?_push_of_some _ (Heap.get?_push_of_some _ (Heap.get?_push_of_some _ (Heap.get?_push_of_some _ (Heap.get?_push_size _ rfl))))))
  have g3 : (zip4H7 s.heap l1 l2 l3 l4).get? (zip4H2 s.heap l1 l2).objs.size = some _ := (Heap.get?_push_of_some _ (Heap.get?_push_of_some _ (Heap.get?_push_of_some _ (Heap.get?_push_of_some _ (Heap.get?_push_size _ rfl)))))
  have g4 : (zip4H7 s.heap l1 l2 l3 l4).get? (zip4H3 s.heap l1 l2 l3).objs.size = some _ := (Heap.get?_push_of_some _ (Heap.get?_push_of_some _ (Heap.get?_push_of_some _ (Heap.get?_push_size _ rfl))))
  have g5 : (zip4H7 s.heap l1 l2 l3 l4).get? (zip4H4 s.heap l1 l2 l3 l4).objs.size = some _ := (Heap.get?_push_of_some _ (Heap.get?_push_of_some _ (Heap.get?_push_size _ rfl)))
  have g6 : (zip4H7 s.heap l1 l2 l3 l4).get? (zip4H5 s.heap l1 l2 l3 l4).objs.size = some _ := (Heap.get?_push_of_some _ (Heap.get?_push_size _ rfl))
  have g7 : (zip4H7 s.heap l1 l2 l3 l4).get? (zip4H6 s.heap l1 l2 l3 l4).objs.size = some _ := (Heap.get?_push_size _ rfl)
  show _ ∧ _
  rw [z1] at g2
  rw [z2] at g3
  rw [z3] at g4
  rw [z4] at g5
  rw [z5] at g6
  rw [z6] at g7
  rw [z1, z2, z3] at g5
  rw [z4, z5] at g7
  rw [z6]
  exact ⟨⟨_, g7, rfl⟩, h _ g7 g5 g6 ⟨_, g1, rfl, rfl⟩ ⟨_, g2, rfl, rfl⟩ ⟨_, g3, rfl, rfl⟩ ⟨_, g4, rfl, rfl⟩ z7 fun c o x => (Heap.get?_push_of_some _ (Heap.get?_push_of_some _ (Heap.get?_push_of_some _ (Heap.get?_push_of_some _ (Heap.get?_push_of_some _ (Heap.get?_push_of_some _ (Heap.get?_push_of_some _ x)))))))⟩
end
end RZ
end S_DxAP
section S_DxAQ
set_option Elab.async false
set_option linter.all false
set_option maxRecDepth 100000
set_option maxHeartbeats 2000000
namespace RZ
open PySem PySem.Spec PyProof.Rows L2
theorem zap_mk (I l1 l2 l3 l4 : Nat) (h1 : l1 < I) (h2 : l2 < I) (h3 : l3 < I) (h4 : l4 < I) : Zap (I + 6) (I + 4) (I + 5) I (I + 1) (I + 2) (I + 3) l1 l2 l3 l4 := by
  constructor <;> (refine PySem.W.neN ?_; omega)
/-- the tuples at a, b, c, d as they stand at each turn, the items in new tuples -/
def Itz4 (K : PySem.W.Frag) (a b c d : Addr) : It :=
  ⟨fun i H => ∃ (ws xs ys zs : List V) (p q x y : V), SqT K H a ws ∧ SqT K H b xs ∧ SqT K H c ys ∧ SqT K H d zs ∧ ws[i]? = some p ∧ xs[i]? = some q ∧ ys[i]? = some x ∧ zs[i]? = some y,
    fun i H v H' => ∃ T p q x y, v = .ref T ∧ H T = none ∧ H' = upd H T (.tup [p, q, x, y]) ∧ (∀ xs, SqT K H a xs → xs[i]? = some p) ∧ (∀ xs, SqT K H b xs → xs[i]? = some q) ∧ (∀ xs, SqT K H c xs → xs[i]? = some x) ∧ ∀ xs, SqT K H d xs → xs[i]? = some y,
    fun i H => ∃ ws xs ys zs : List V, SqT K H a ws ∧ SqT K H b xs ∧ SqT K H c ys ∧ SqT K H d zs ∧ (ws.length ≤ i ∨ xs.length ≤ i ∨ ys.length ≤ i ∨ zs.length ≤ i)⟩
theorem turn_zip4 {P : Program} {w : World} {K : PySem.W.Frag} {elts : List Expr} {kk : Nat} {tpos : Pos} {a b c d z TI TO i1 i2 i3 i4 : Addr} (D : Zap z TI TO i1 i2 i3 i4 a b c d) :
    Turn P w K (.Tuple elts kk tpos) (Itz4 K a b c d) [z, TI, TO, i1, i2, i3, i4] z (fun i h => IsZip h z TI TO .none ∧ IsSeq h TI #[.ref i1, .ref i2, .ref i3, .ref i4] ∧ (∃ x1 x2 x3 x4, IsSeq h TO #[x1, x2, x3, x4]) ∧ h.IsTupleIter i1 a i ∧ h.IsTupleIter i2 b i ∧ h.IsTupleIter i3 c i ∧ h.IsTupleIter i4 d i) where
  mem := by simp
  obj := fun i h st c hc => by
    obtain ⟨hz, hTI, ⟨_, _, _, _, hTO⟩, ⟨o1, e1, _, d1⟩, ⟨o2, e2, _, d2⟩, ⟨o3, e3, _, d3⟩, ⟨o4, e4, _, d4⟩⟩ := st
    have e' : c = z ∨ c = TI ∨ c = TO ∨ c = i1 ∨ c = i2 ∨ c = i3 ∨ c = i4 := by simpa using hc
    rcases e' with q | q | q | q | q | q | q
    · rw [q]; exact ⟨_, hz, fun v q => nomatch q⟩
    · rw [q]; exact ⟨_, hTI, fun v q => nomatch q⟩
    · rw [q]; exact ⟨_, hTO, fun v q => nomatch q⟩
    · rw [q]; exact ⟨o1, e1, fun v q => by rw [d1] at q; cases q⟩
    · rw [q]; exact ⟨o2, e2, fun v q => by rw [d2] at q; cases q⟩
    · rw [q]; exact ⟨o3, e3, fun v q => by rw [d3] at q; cases q⟩
    · rw [q]; exact ⟨o4, e4, fun v q => by rw [d4] at q; cases q⟩
  keep := fun i h h' st k => by
    obtain ⟨hz, hTI, ⟨_, _, _, _, hTO⟩, h1, h2, h3, h4⟩ := st
    exact ⟨k z (by simp) _ hz, k TI (by simp) _ hTI, ⟨_, _, _, _, k TO (by simp) _ hTO⟩, h1.at fun o q => k i1 (by simp) o q, h2.at fun o q => k i2 (by simp) o q, h3.at fun o q => k i3 (by simp) o q, h4.at fun o q => k i4 (by simp) o q⟩
  item := by
    intro X hP hw hK hc i pins s σ H E I hf st hg
    subst hP hw hK
    obtain ⟨hz, hTI, ⟨_, _, _, _, hTO⟩, h1, h2, h3, h4⟩ := st
    obtain ⟨ws, xs, ys, zs, p, q, x, y, g1, g2, g3, g4, e1, e2, e3, e4⟩ := hg
    obtain ⟨t1, r1, p1, _⟩ := I.tuple g1
    obtain ⟨t2, r2, p2, _⟩ := I.tuple g2
    obtain ⟨t3, r3, p3, _⟩ := I.tuple g3
    obtain ⟨t4, r4, p4, _⟩ := I.tuple g4
    obtain ⟨u1, m1, v1⟩ := r1.get e1
    obtain ⟨u2, m2, v2⟩ := r2.get e2
    obtain ⟨u3, m3, v3⟩ := r3.get e3
    obtain ⟨u4, m4, v4⟩ := r4.get e4
    have hzl : z < s.heap.objs.size := Heap.lt_size hz
    refine pyNext_zip4_item D hz hTI hTO h1 h2 h3 h4 p1 p2 p3 p4 (x1 := u1) (x2 := u2) (x3 := u3) (x4 := u4) (by simpa using m1) (by simpa using m2) (by simpa using m3) (by simpa using m4) fun h' z' TO' h1' h2' h3' h4' hT hsz hk => ?_
    refine ⟨_, rfl, wpAny_letOwnedTupleGo_zip (s := { s with heap := h' }) z' fun h'' z'' sb => ?_⟩
    have hT2 : h''.get? s.heap.objs.size = some { cls := .type "tuple", data := .seq #[u1, u2, u3, u4] } := (sb.2 _ (Nat.ne_of_gt hzl)).trans hT
    have new : ObjOk X.prog X.w (upd H s.heap.objs.size (.tup [p, q, x, y])) h'' s.heap.objs.size (.tup [p, q, x, y]) :=
      ⟨by show 4 ≤ sizeLine; decide, [u1, u2, u3, u4], .cons v1 (.cons v2 (.cons v3 (.cons v4 .nil))), ⟨_, hT2, rfl, _, rfl⟩⟩
    have I1 : Inv X pins σ (upd H s.heap.objs.size (.tup [p, q, x, y])) { s with heap := h'' } :=
      I.turnedNew (t' := s.toks) (ch := [z, TI, TO, i1, i2, i3, i4]) (fun c o hb q => (sb.2 c (fun q' => hb (by simp [q']))).trans (hk c o (fun q' => hb (by simp [q'])) (fun q' => hb (by simp [q'])) (fun q' => hb (by simp [q'])) (fun q' => hb (by simp [q'])) (fun q' => hb (by simp [q'])) (fun q' => hb (by simp [q'])) q)) hf (Nat.le_refl _) new
    have keepz : ∀ c o, c ≠ z → h'.get? c = some o → h''.get? c = some o := fun c o n q => (sb.2 _ n).trans q
    refine ⟨.ref s.heap.objs.size, _, I1, rfl, ⟨_, p, q, x, y, rfl, I.hok.fresh (Nat.le_refl _), rfl, fun l hl => by rw [I.tuple_inj hl g1]; exact e1, fun l hl => by rw [I.tuple_inj hl g2]; exact e2, fun l hl => by rw [I.tuple_inj hl g3]; exact e3, fun l hl => by rw [I.tuple_inj hl g4]; exact e4⟩, ⟨z'', ?_, ⟨u1, u2, u3, u4, ?_⟩, ?_, ?_, ?_, ?_⟩, fun c hcm => ?_⟩
    · exact keepz _ _ D.n_TI_z (hk _ _ D.n_TI_z D.n_TI_TO D.n_TI_i1 D.n_TI_i2 D.n_TI_i3 D.n_TI_i4 hTI)
    · exact keepz _ _ D.n_TO_z TO'
    · exact h1'.at fun o q => keepz _ o D.n_i1_z q
    · exact h2'.at fun o q => keepz _ o D.n_i2_z q
    · exact h3'.at fun o q => keepz _ o D.n_i3_z q
    · exact h4'.at fun o q => keepz _ o D.n_i4_z q
    · have hlt : c < s.heap.objs.size := by
        have e' : c = z ∨ c = TI ∨ c = TO ∨ c = i1 ∨ c = i2 ∨ c = i3 ∨ c = i4 := by simpa using hcm
        rcases e' with q | q | q | q | q | q | q
        · rw [q]; exact hzl
        · rw [q]; exact Heap.lt_size hTI
        · rw [q]; exact Heap.lt_size hTO
        · rw [q]; obtain ⟨_, e1, _⟩ := h1; exact Heap.lt_size e1
        · rw [q]; obtain ⟨_, e2, _⟩ := h2; exact Heap.lt_size e2
        · rw [q]; obtain ⟨_, e3, _⟩ := h3; exact Heap.lt_size e3
        · rw [q]; obtain ⟨_, e4, _⟩ := h4; exact Heap.lt_size e4
      rw [upd_ne (Nat.ne_of_lt hlt)]
      exact (hf c hcm).1
  done := by
    intro X hP hw hK hc i pins s σ H E I hf st hg
    subst hP hw hK
    obtain ⟨hz, hTI, ⟨_, _, _, _, hTO⟩, h1, h2, h3, h4⟩ := st
    obtain ⟨ws, xs, ys, zs, g1, g2, g3, g4, hend⟩ := hg
    obtain ⟨t1, r1, p1, _⟩ := I.tuple g1
    obtain ⟨t2, r2, p2, _⟩ := I.tuple g2
    obtain ⟨t3, r3, p3, _⟩ := I.tuple g3
    obtain ⟨t4, r4, p4, _⟩ := I.tuple g4
    have l1 := r1.length
    have l2 := r2.length
    have l3 := r3.length
    have l4 := r4.length
    have he : t1.toArray[i]? = none ∨ t2.toArray[i]? = none ∨ t3.toArray[i]? = none ∨ t4.toArray[i]? = none := by
      rcases hend with q | q | q | q
      · exact .inl (by simp; omega)
      · exact .inr (.inl (by simp; omega))
      · exact .inr (.inr (.inl (by simp; omega)))
      · exact .inr (.inr (.inr (by simp; omega)))
    exact pyNext_zip4_end (I.ok.hd hc) D hz hTI hTO h1 h2 h3 h4 p1 p2 p3 p4 he fun h' hk => ⟨rfl, I.turnedL (t' := s.toks) (ch := [z, TI, TO, i1, i2, i3, i4]) (fun c o hb q =>
      hk c o (fun q' => hb (by simp [q'])) (fun q' => hb (by simp [q'])) (fun q' => hb (by simp [q'])) (fun q' => hb (by simp [q'])) (fun q' => hb (by simp [q'])) (fun q' => hb (by simp [q'])) q) hf⟩
  self := fun A i s Q E st h => wpAny_pyIter_zip st.1 h
def iZip4 (K : PySem.W.Frag) (ta : TA) : TI := fun σ H R => ta σ H fun vs H1 => ∃ a b c d ws xs ys zs, vs = [.ref a, .ref b, .ref c, .ref d] ∧ SqT K H1 a ws ∧ SqT K H1 b xs ∧ SqT K H1 c ys ∧ SqT K H1 d zs ∧ R (Itz4 K a b c d) H1
theorem pi_zip4 {X : Cx} {e e2 e3 e4 : Expr} {ta : TA} {p pos tpos : Pos} {elts : List Expr} {kk : Nat} (hg : Gl X "zip") (hm : X.mg "zip" = none) (ha : PA X [e, e2, e3, e4] ta)
    (hs : starEach [e, e2, e3, e4] X.env = (false, eval e X.env) :: starEach [e2, e3, e4] X.env := by rfl) (hpl : (backTo pos (starEach [e2, e3, e4] X.env)).any (·.1) = false := by rfl) :
    PI X (.Tuple elts kk tpos) (.Call (.Name "zip" p) [e, e2, e3, e4] [] pos) (iZip4 X.K ta) := by
  refine ⟨fun pins s σ H R I h => ?_⟩
  refine Call_ (ld_blt I hg hm PyProof.Rows.boot_zip (PyProof.Rows.callWith_type1 (thn (ha.run pos pins s σ H _ I h) fun us s1 ⟨vs, H1, I1, r1, q1⟩ => ?_) hs hpl))
  obtain ⟨a, b, c, d, ws, xs, ys, zs, ex, g1, g2, g3, g4, q⟩ := q1
  subst ex
  cases r1 with
  | cons ra r1 =>
  cases r1 with
  | cons rb r1 =>
  cases r1 with
  | cons rc r1 =>
  cases r1 with
  | cons rd r1 =>
  cases r1
  cases ra
  cases rb
  cases rc
  cases rd
  have fresh7 : ∀ c, c ∈ [s1.heap.objs.size + 6, s1.heap.objs.size + 4, s1.heap.objs.size + 5, s1.heap.objs.size, s1.heap.objs.size + 1, s1.heap.objs.size + 2, s1.heap.objs.size + 3] → FpOk X pins H1 c := fun c hcm => by
    have e' : c = s1.heap.objs.size + 6 ∨ c = s1.heap.objs.size + 4 ∨ c = s1.heap.objs.size + 5 ∨ c = s1.heap.objs.size ∨ c = s1.heap.objs.size + 1 ∨ c = s1.heap.objs.size + 2 ∨ c = s1.heap.objs.size + 3 := by simpa using hcm
    have hle : s1.heap.objs.size ≤ c := by
      rcases e' with z | z | z | z | z | z | z
      · rw [z]; exact Nat.le_add_right _ _
      · rw [z]; exact Nat.le_add_right _ _
      · rw [z]; exact Nat.le_add_right _ _
      · rw [z]; exact Nat.le_refl _
      · rw [z]; exact Nat.le_add_right _ _
      · rw [z]; exact Nat.le_add_right _ _
      · rw [z]; exact Nat.le_add_right _ _
    exact I1.fpOk hle (I1.hok.fresh hle)
  obtain ⟨t1, r1, p1, _⟩ := I1.tuple g1
  obtain ⟨t2, r2, p2, _⟩ := I1.tuple g2
  obtain ⟨t3, r3, p3, _⟩ := I1.tuple g3
  obtain ⟨t4, r4, p4, _⟩ := I1.tuple g4
  obtain ⟨o1, ho1, _⟩ := id p1
  obtain ⟨o2, ho2, _⟩ := id p2
  obtain ⟨o3, ho3, _⟩ := id p3
  obtain ⟨o4, ho4, _⟩ := id p4
  refine call_zip4 (show s1.heap.IsTuple a t1.toArray from p1) (show s1.heap.IsTuple b t2.toArray from p2) (show s1.heap.IsTuple c t3.toArray from p3) (show s1.heap.IsTuple d t4.toArray from p4) fun h' hz hTI hTO h1 h2 h3 h4 hsz hk => wpAny_pyIter_zip hz ?_
  have I2 : Inv X pins σ H1 { s1 with heap := h' } := I1.kept (t' := s1.toks) hk
  exact ⟨s1.heap.objs.size + 6, [s1.heap.objs.size + 6, s1.heap.objs.size + 4, s1.heap.objs.size + 5, s1.heap.objs.size, s1.heap.objs.size + 1, s1.heap.objs.size + 2, s1.heap.objs.size + 3], _, _, H1, rfl, I2, turn_zip4 (zap_mk s1.heap.objs.size a b c d (Heap.lt_size ho1) (Heap.lt_size ho2) (Heap.lt_size ho3) (Heap.lt_size ho4)), ⟨hz, hTI, ⟨_, _, _, _, hTO⟩, h1, h2, h3, h4⟩, fresh7, q⟩
theorem walk_zip4 {K : PySem.W.Frag} {a b c d : Addr} {ws xs ys zs : List V} : Walk (Itz4 K a b c d) (min ws.length (min xs.length (min ys.length zs.length))) (fun H => SqT K H a ws ∧ SqT K H b xs ∧ SqT K H c ys ∧ SqT K H d zs)
    (fun i H v H' => ∃ T p q x y, v = .ref T ∧ H T = none ∧ H' = upd H T (.tup [p, q, x, y]) ∧ ws[i]? = some p ∧ xs[i]? = some q ∧ ys[i]? = some x ∧ zs[i]? = some y) := by
  refine ⟨fun i H hi hH => ?_, fun H hH => ?_, fun i H v H' hi hH yy => ?_⟩
  · obtain ⟨g1, g2, g3, g4⟩ := hH
    exact ⟨ws, xs, ys, zs, _, _, _, _, g1, g2, g3, g4, List.getElem?_eq_getElem (by omega), List.getElem?_eq_getElem (by omega), List.getElem?_eq_getElem (by omega), List.getElem?_eq_getElem (by omega)⟩
  · obtain ⟨g1, g2, g3, g4⟩ := hH
    exact ⟨ws, xs, ys, zs, g1, g2, g3, g4, by omega⟩
  · obtain ⟨g1, g2, g3, g4⟩ := hH
    obtain ⟨T, p, q, x, y, h1, h2, h3, h4, h5, h6, h7⟩ := yy
    exact ⟨T, p, q, x, y, h1, h2, h3, h4 _ g1, h5 _ g2, h6 _ g3, h7 _ g4⟩
end RZ
end S_DxAQ
section S_DxAR
set_option Elab.async false
set_option linter.all false
set_option maxRecDepth 100000
set_option maxHeartbeats 2000000
namespace Dx
open PySem L2 ItX
open PyProof.Rows hiding St
def seqT : D → Option (List D)
  | .tup ds => some ds
  | .kt ds => some ds
  | _ => none
def quads : List D → List D → List D → List D → List D
  | a :: as, b :: bs, c :: cs, d :: ds => .tup [a, b, c, d] :: quads as bs cs ds
  | _, _, _, _ => []
theorem quads_len : ∀ (as bs cs ds : List D), (quads as bs cs ds).length = min as.length (min bs.length (min cs.length ds.length))
  | [], _, _, _ => by simp [quads]
  | _ :: _, [], _, _ => by simp [quads]
  | _ :: _, _ :: _, [], _ => by simp [quads]
  | _ :: _, _ :: _, _ :: _, [] => by simp [quads]
  | a :: as, b :: bs, c :: cs, d :: ds => by
    rw [quads, List.length_cons, quads_len as bs cs ds]
    simp only [List.length_cons]
    omega
theorem quads_get : ∀ (as bs cs ds : List D) (i : Nat) (a b c d : D), as[i]? = some a → bs[i]? = some b → cs[i]? = some c → ds[i]? = some d → (quads as bs cs ds)[i]? = some (.tup [a, b, c, d])
  | [], _, _, _, _, _, _, _, _, h, _, _, _ => by simp at h
  | _ :: _, [], _, _, _, _, _, _, _, _, h, _, _ => by simp at h
  | _ :: _, _ :: _, [], _, _, _, _, _, _, _, _, h, _ => by simp at h
  | _ :: _, _ :: _, _ :: _, [], _, _, _, _, _, _, _, _, h => by simp at h
  | a :: as, b :: bs, c :: cs, d :: ds, 0, _, _, _, _, h1, h2, h3, h4 => by simp at h1 h2 h3 h4; subst h1 h2 h3 h4; simp [quads]
  | a :: as, b :: bs, c :: cs, d :: ds, i + 1, p, q, x, y, h1, h2, h3, h4 => by
    rw [quads, List.getElem?_cons_succ]
    exact quads_get as bs cs ds i p q x y (by simpa using h1) (by simpa using h2) (by simpa using h3) (by simpa using h4)
def zip4T : List D → Res (List D)
  | [p, q, x, y] => match seqT p, seqT q, seqT x, seqT y with
    | some a, some b, some c, some d => .ok (quads a b c d)
    | _, _, _, _ => .bad
  | _ => .bad
theorem seqT_v {K : PySem.W.Frag} {cm : CM} {S : Hp} {v : V} {d : D} {ds : List D} (h : Rp K cm S v d) (q : seqT d = some ds) : ∃ a xs, v = .ref a ∧ SqT K S a xs ∧ RpA K cm S xs ds := by
  cases d with
  | tup es =>
    cases q
    cases h with | tup h1 r => exact ⟨_, _, rfl, .inl (.inl h1), r⟩
  | kt es =>
    cases q
    cases h with | kt h1 r => exact ⟨_, _, rfl, h1, r⟩
  | _ => cases q
section
variable {X : Cx} {c : Cf} {L G G' : List Ow} {f f1 f2 : Rho → Res D} {e e2 e3 e4 : Expr} {pos apos p : Pos} {fs : Rho → Res (List D)}
theorem di_zip4 {p tpos : Pos} {elts : List Expr} {kk : Nat} (hm : X.mg "zip" = none) (hg : Gl X "zip") (ha : PA X [e, e2, e3, e4] (tAs c G fs)) (hK : c.K = X.K := by rfl) (hs : starEach [e, e2, e3, e4] X.env = (false, eval e X.env) :: starEach [e2, e3, e4] X.env := by rfl) (hpl : (backTo pos (starEach [e2, e3, e4] X.env)).any (·.1) = false := by rfl) :
    PI X (.Tuple elts kk tpos) (.Call (.Name "zip" p) [e, e2, e3, e4] [] pos) (iD c G (dIts zip4T fs)) :=
  pi_imp (RZ.pi_zip4 hg hm ha hs hpl) fun σ H R ⟨S0, H0, S, r, ok, p⟩ => rd_seq ok p fun ds vs S1 H1 w1 o1 m1 p1 => by
    unfold zip4T at p1
    split at p1
    · rename_i d1 d2 d3 d4
      cases m1 with | cons h1 m1 =>
      cases m1 with | cons h2 m1 =>
      cases m1 with | cons h3 m1 =>
      cases m1 with | cons h4 m1 =>
      cases m1
      split at p1
      · rename_i a b cc d z1 z2 z3 z4
        obtain ⟨q1, x1, rfl, s1, r1⟩ := seqT_v h1 z1
        obtain ⟨q2, x2, rfl, s2, r2⟩ := seqT_v h2 z2
        obtain ⟨q3, x3, rfl, s3, r3⟩ := seqT_v h3 z3
        obtain ⟨q4, x4, rfl, s4, r4⟩ := seqT_v h4 z4
        rw [hK] at s1 s2 s3 s4
        have W := RZ.walk_zip4 (K := X.K) (a := q1) (b := q2) (c := q3) (d := q4) (ws := x1) (xs := x2) (ys := x3) (zs := x4)
        rw [r1.length, r2.length, r3.length, r4.length, ← quads_len] at W
        refine ⟨q1, q2, q3, q4, x1, x2, x3, x4, rfl, o1.ex.t s1, o1.ex.t s2, o1.ex.t s3, o1.ex.t s4, p1.go o1.ex _ (show Gives c _ _ (RZ.Itz4 X.K q1 q2 q3 q4) _ from ⟨_, _, W, fun S'' H'' e1 e2 _ => ⟨(e1.trans e2).t s1, (e1.trans e2).t s2, (e1.trans e2).t s3, (e1.trans e2).t s4⟩, fun i S2 v H2 H3 hi e1 e2 yy => ?_⟩)⟩
        obtain ⟨T, p, q, x, y, rfl, hT, rfl, g1, g2, g3, g4⟩ := yy
        obtain ⟨b1, k1, t1⟩ := r1.getV g1
        obtain ⟨b2, k2, t2⟩ := r2.getV g2
        obtain ⟨b3, k3, t3⟩ := r3.getV g3
        obtain ⟨b4, k4, t4⟩ := r4.getV g4
        have en : Ex S2 (upd S2 T (.tup [p, q, x, y])) := Ex.new (e2.nn hT)
        exact ⟨upd S2 T (.tup [p, q, x, y]), .tup [b1, b2, b3, b4], Fwd.both e2 hT, quads_get _ _ _ _ i _ _ _ _ k1 k2 k3 k4, .tup upd_same (.cons (t1.mono (e1.trans en)) (.cons (t2.mono (e1.trans en)) (.cons (t3.mono (e1.trans en)) (.cons (t4.mono (e1.trans en)) .nil))))⟩
      · exact p1.elim
    · exact p1.elim
end
section
variable {X : Cx} {CX : CXT} {k n : Nat} {f C : Addr} {fd : FuncData} {ps ks : List Str} {sp : Sp} {E : L2.St → XK} {x : Str} {p pos : Pos} {e : Expr} {es : List Expr} {kws : List Keyword} {t tk : TA} {g : List Value → List Value → List Value} {gV : List V → List V → List V}
def tMakeKS (C : Addr) (n m : Nat) (sp : Sp) (gV : List V → List V → List V) (E : L2.St → XK) (t tk : TA) : TE := fun σ H Q => t σ H fun vs H1 => tk σ H1 fun zs H2 => vs.length = n ∧ zs.length = m ∧ ∀ x dx, H2 x = none → H2 dx = none → dx ≠ x →
  sp (gV (.ref x :: vs) zs) (upd (upd H2 dx (.own x)) x (.ins C dx [])) (fun v H3 => v = .non ∧ Q (.ref x) H3) (E σ)
theorem run_makeKS {pins : List (Addr × Obj)} {σ : L2.St} {H : Hp} {s : Shared} {Q : VK} {us ws : List Value} {vs zs : List V} (M : Mk X.K C f) (F : FnOk X.prog X.w X.K X.mg X.base CX k f fd ps sp) (hr : Room (k + 1) X.A) (hb : KBn X.K fd ps (n + 1) ks g gV) (hx : PassesAt CX X σ (E σ))
    (I : Inv X pins σ H s) (r : Vals vs us) (rz : Vals zs ws) (l1 : vs.length = n) (l2 : zs.length = ks.length)
    (h : ∀ x dx, H x = none → H dx = none → dx ≠ x → sp (gV (.ref x :: vs) zs) (upd (upd H dx (.own x)) x (.ins C dx [])) (fun v H2 => v = .non ∧ Q (.ref x) H2) (E σ)) :
    wpAny (model X.prog X.w) X.A (call (.ref C) us (ks.zip ws)) (EP X pins σ Q) X.xe s := by
  have hq := h (s.heap.objs.size + 1) s.heap.objs.size (I.hok.fresh (Nat.le_succ _)) (I.hok.fresh (Nat.le_refl _)) (Nat.ne_of_lt (Nat.lt_succ_self _))
  have I2 := Inv.made (C := C) I
  have r1 : Vals (V.ref (s.heap.objs.size + 1) :: vs) (Value.ref (s.heap.objs.size + 1) :: us) := .cons rfl r
  have r2 := hb.rel r1 rz
  have n1 : (Value.ref (s.heap.objs.size + 1) :: us).length = n + 1 := by
    rw [List.length_cons, ← r.length, l1]
  refine wpAny_call (make_map (f := f) I.kIn M.makes M.init (beq_iff_eq.mp M.fn) (codeAny_mono (F.run _ X.stack _ _ ⟨Value.ref (s.heap.objs.size + 1) :: us, ks.zip ws⟩ (g (Value.ref (s.heap.objs.size + 1) :: us) ws) _ _ (E σ) (hr.make C us (ks.zip ws))
    (I2.env0.make C us (ks.zip ws)) (hb.to _ (Value.ref (s.heap.objs.size + 1) :: us) ws I2.kIn n1 (rz.length.symm.trans l2)) r2 hq) fun r s' hq' => ?_))
  cases r with
  | error e => exact hx pins _ _ e s' I2 hq'
  | ok fl =>
    cases fl with
    | ret u =>
      obtain ⟨v, H', I3, rv, ev, q3⟩ := I2.after hq'
      subst ev
      exact ⟨rv, ⟨V.ref (s.heap.objs.size + 1), H', I3, rfl, q3⟩⟩
    | next => exact False.elim hq'
    | brk => exact False.elim hq'
    | cont => exact False.elim hq'
theorem pe_makeKS (M : Mk X.K C f) (F : FnOk X.prog X.w X.K X.mg X.base CX k f fd ps sp) (hr : Room (k + 1) X.A) (hg : Gl X x) (hm : X.mg x = some (.ref C)) (hb : KBn X.K fd ps (n + 1) ks g gV) (hx : ∀ σ, PassesAt CX X σ (E σ)) (ha : PA X (e :: es) t) (hkw : PK X kws tk)
    (hall : (backToKw pos (keywordEach kws X.env)).all (·.1.isSome) = true := by rfl) (hks : (backToKw pos (keywordEach kws X.env)).filterMap (·.1) = ks := by rfl) (hdb : (x == ("__debug__" : Str)) = false := by decide)
    (he : starEach (e :: es) X.env = (false, eval e X.env) :: starEach es X.env := by rfl) (hpl : ((backTo pos (starEach (e :: es) X.env)).any (·.1) || (backToKw pos (keywordEach kws X.env)).any (·.1.isNone)) = false := by rfl) :
    PE X (.Call (.Name x p) (e :: es) kws pos) (tMakeKS C n ks.length sp gV E t tk) := by
  refine ⟨fun pins s σ H Q I h => ?_⟩
  refine wpAny_Call_Name_kw (ld_glob I hg hm ?_ hdb)
  refine PySem.W.callWith_KW (h₀ := X.base) I.ok.mod.kin M.kp hall (thn (ha.run pos pins s σ H _ I h) fun us s1 ⟨vs, H1, I1, r, q⟩ => ?_) hpl he
  refine thn (hkw.run pos pins s1 σ H1 _ I1 q) fun ws s2 ⟨zs, H2, I2, rz, l1, l2, q2⟩ => ⟨I2.kIn, ?_⟩
  rw [hks]
  exact run_makeKS M F hr hb (hx σ) I2 r rz l1 l2 q2
end
section
variable {X : Cx} {c : Cf} {L G G' : List Ow} {fs gs : Rho → Res (List D)} {e : Expr} {es : List Expr} {kws : List Keyword} {pos p : Pos} {C : Addr}
variable {k n : Nat} {fa : Addr} {fd : FuncData} {ps ks : List Str} {ms1 ms2 : List Bool} {F : List D → Res D}
theorem rpM_app {S H : Hp} : ∀ {m1 m2 : List Bool} {vs zs : List V} {ds es : List D}, RpM c S H m1 vs ds → RpM c S H m2 zs es → RpM c S H (m1 ++ m2) (vs ++ zs) (ds ++ es)
  | [], _, [], _, [], _, _, h => h
  | [], _, _ :: _, _, _, _, h, _ => h.elim
  | [], _, [], _, _ :: _, _, h, _ => h.elim
  | true :: _, _, [], _, _, _, h, _ => h.elim
  | true :: _, _, _ :: _, _, [], _, h, _ => h.elim
  | false :: _, _, [], _, _, _, h, _ => h.elim
  | false :: _, _, _ :: _, _, [], _, h, _ => h.elim
  | true :: m1, _, _ :: _, _, _ :: _, _, h, h2 => ⟨h.1, rpM_app h.2 h2⟩
  | false :: m1, _, _ :: _, _, _ :: _, _, h, h2 => ⟨h.1, rpM_app h.2 h2⟩
end
end Dx
end S_DxAR
section S_DxAS
set_option Elab.async false
set_option linter.all false
set_option maxRecDepth 100000
set_option maxHeartbeats 2000000
namespace Dx
open PySem L2 ItX
open PyProof.Rows hiding St
end Dx
end S_DxAS
section S_DxAT
set_option Elab.async false
set_option linter.all false
set_option maxRecDepth 100000
set_option maxHeartbeats 2000000
namespace Dx
open PySem L2 ItX
open PyProof.Rows hiding St
def rSumT (K : PySem.W.Frag) : List V → Hp → VK → Prop := fun vs H Q => ∃ (a : Addr) (ns : List Int), vs = [V.ref a] ∧ SqT K H a (ns.map V.int) ∧ Q (.int ns.sum) H
theorem cr_sumT {X : Cx} (hc : X.calm = true) : CallR X (.builtin "sum") (rSumT X.K) := by
  intro pins s σ H vs us Q I r h
  obtain ⟨a, ns, rfl, hs, q⟩ := h
  obtain ⟨its, rv, hl, _⟩ := I.tuple hs
  rw [Vals.ref1 r]
  have hi := rv.ints
  obtain ⟨xs, e⟩ := hi.allInts.items
  have hn : numsOf (intItems xs).toList = ns := by rw [← e]; exact hi.numsOf
  rw [nums_intItems] at hn
  have hl' : s.heap.IsTuple a its.toArray := hl
  rw [e] at hl'
  refine PySem.W.ktm_sumG (I.ok.hd hc) hl' fun h' tk t' hk => ?_
  refine ⟨.int _, H, I.kept hk, ⟨_, rfl⟩, ?_⟩
  rw [preSum_eq, List.take_of_length_le (by simp), hn]
  exact q
def sumTD : D → Res D
  | .tup ds => match allInt ds with
    | some is => .ok (.int is.sum)
    | none => .bad
  | _ => .bad
theorem cs_sumT {c : Cf} : CallS c (mV c) (rSumT c.K) [true] (g1 sumTD) := by
  intro σ S H vs ds Q ex m p
  obtain ⟨v, d, rfl, rfl, h⟩ := m.one
  cases d with
  | tup ds =>
    obtain ⟨q, xs, rfl, a1, r1, _⟩ := h.tup ex
    replace p : PostG c σ S H (match allInt ds with | some is => Res.ok (D.int is.sum) | none => .bad) (fun a S' H' => ∀ b, mV c H S' H' b a → Q b H') := p
    split at p
    · rename_i is hi
      refine ⟨q, is, rfl, ?_, p.here ex (.int _)⟩
      rw [← r1.ints hi]; exact a1
    · exact p.elim
  | _ => exact p.elim
theorem rs_sumT {ns : List Int} {Q : D → Prop} {E : Str → List Str → List D → Prop} (q : Q (.int ns.sum)) : Rs (g1 sumTD [.tup (ns.map D.int)]) Q E := by
  show Rs (match allInt (ns.map D.int) with | some is => Res.ok (.int is.sum) | none => .bad) Q E
  rw [allInt_map]; exact q
end Dx
end S_DxAT
section S_DxAU
set_option Elab.async false
set_option linter.all false
set_option maxRecDepth 100000
set_option maxHeartbeats 2000000
namespace Dx
open PySem L2 ItX
open PyProof.Rows hiding St
theorem for_itE {J : It} {n : Nat} {Gd : Hp → Prop} {Y : Nat → Hp → V → Hp → Prop} (w : Walk J n Gd Y) {g : TG} {tb u : TS} {D : Ends} {σ : St} {H : Hp} (Pv : Nat → St → Hp → Prop) (h0 : Pv 0 σ H) (hG : ∀ i σ H, i ≤ n → Pv i σ H → Gd H)
    (hs : ∀ i x σ H H', i < n → Pv i σ H → Y i H x H' → g x σ H' fun σ2 H2 => tb { D with nx := Pv (i + 1), ct := Pv (i + 1), bk := D.nx } σ2 H2) (hd : ∀ σ H, Pv n σ H → u D σ H) :
    ∃ W : Nat → Nat → St → Hp → Prop, (∃ m, W 0 m σ H) ∧ ∀ i m σ H, W i m σ H →
      (J.stop i H ∧ u D σ H) ∨ (J.go i H ∧ ∃ N : St → Hp → Prop, (∀ σ' H', N σ' H' → ∃ m', m' < m ∧ W (i + 1) m' σ' H') ∧ ∀ x H', J.yld i H x H' → g x σ H' fun σ2 H2 => tb { D with nx := N, ct := N, bk := D.nx } σ2 H2) := by
  refine ⟨fun i m σ H => m = n - i ∧ i ≤ n ∧ Pv i σ H, ⟨n, by simp, Nat.zero_le _, h0⟩, ?_⟩
  rintro i m σ H ⟨rfl, hi, p⟩
  have q := hG i σ H hi p
  by_cases hlt : i < n
  · exact .inr ⟨w.goes i H hlt q, Pv (i + 1), fun σ' H' p' => ⟨n - (i + 1), by omega, rfl, hlt, p'⟩, fun x H' y => hs i x σ H H' hlt p (w.yields i H x H' hlt q y)⟩
  · have e : i = n := by omega
    subst e
    exact .inl ⟨w.stops H q, hd σ H p⟩
def loopE (t : D → Rho → Res Rho) (F K : Rho → SR) : List D → Rho → SR
  | [], r => K r
  | d :: ds, r => match t d r with
    | .ok r1 => match F r1 with
      | .nx r2 => loopE t F K ds r2
      | .ct r2 => loopE t F K ds r2
      | .bk r2 => .nx r2
      | o => o
    | _ => .bad
def forEF (its : Rho → Res (List D)) (t : D → Rho → Res Rho) (F K : Rho → SR) : Rho → SR := fun r => liftS r (its r) fun ds => loopE t F K ds r
section
variable {X : Cx} {c : Cf} {L G G' : List Ow} {tg : Expr} {pos : Pos}
theorem ds_forE {iter : Expr} {body orelse : List Stmt} {its : Rho → Res (List D)} {ks : List Nat} {t : D → Rho → Res Rho} {F K : Rho → SR} (hg : Gok c G) (hp : PassesOwn (model X.prog X.w) X.A X.env X.xe) (hc : X.calm = true) (hi : PI X tg iter (iD c G its)) (ht : PG X tg (gD c G G' ks t)) (hb : PSs X body (sD c G G' G F)) (ho : PSs X orelse (sD c L G G K))
    (hs : ∀ x, foldedSetIterable iter X.env x = pure x := by intro _; rfl) : PS X (.For tg iter body orelse pos) (sD c L G G (forEF its t F K)) :=
  ps_imp (ps_forE hp hc hi ht hb ho hs) fun E σ H ⟨S0, H0, S, r, ok, p⟩ => by
    refine ⟨S0, H0, S, r, ok, ?_⟩
    unfold forEF at p
    cases hf : its r with
    | err n ns vs =>
      rw [hf] at p
      exact fun C dd S' H' fs h1 fw h2 h3 h4 => p C dd σ S' H' fs h1 (ok.fwd.trans fw) (fun g q => by rw [hg g q]; exact ok.go fw) h2 h3 h4
    | bad => rw [hf] at p; exact p.elim
    | ok ds =>
      rw [hf] at p
      intro S1 H1 w1 J ⟨Gd, Y, wk, hG, hY⟩
      have p : PostS c S0 H0 L G (loopE t F K ds r) E := p
      refine for_itE wk (fun i σ' H' => ∃ S' r', Ex S1 S' ∧ EnvOk c S0 H0 G S' H' σ' r' ∧ PostS c S0 H0 L G (loopE t F K (ds.drop i) r') E) ⟨S1, r, Ex.refl, ok.go w1, by rw [List.drop_zero]; exact p⟩ ?_ ?_ ?_
      · rintro i σ' H' _ ⟨S', r', e1, ok', _⟩
        exact hG S' H' e1 ok'.ex ok'.fwd.h
      · rintro i x σ' H' H2 hi ⟨S', r', e1, ok', p'⟩ y
        obtain ⟨S2, d, fw, hd, hx⟩ := hY i S' H' x H2 hi e1 ok'.ex y
        have hdrop : ds.drop i = d :: ds.drop (i + 1) := by
          rw [List.drop_eq_getElem_cons hi]
          rw [List.getElem?_eq_getElem hi] at hd
          cases hd; rfl
        rw [hdrop] at p'
        unfold loopE at p'
        refine ⟨S0, H0, S2, r', d, ok'.go fw, hx, ?_⟩
        cases htt : t d r' with
        | err _ _ _ => rw [htt] at p'; exact p'.elim
        | bad => rw [htt] at p'; exact p'.elim
        | ok r1 =>
          rw [htt] at p'
          intro σ3 _ ok3
          refine ⟨S2, H0, S2, r1, ok3.rebase, ?_⟩
          dsimp only at p'
          have fin : ∀ σ4 S4 H4 r4, EnvOk c S2 H0 G S4 H4 σ4 r4 → PostS c S0 H0 L G (loopE t F K (ds.drop (i + 1)) r4) E → ∃ S' r', Ex S1 S' ∧ EnvOk c S0 H0 G S' H4 σ4 r' ∧ PostS c S0 H0 L G (loopE t F K (ds.drop (i + 1)) r') E := fun σ4 S4 H4 r4 e4 p4 =>
            ⟨S4, r4, (e1.trans fw.s).trans e4.fwd.s, e4.unbase ok3.fwd, p4⟩
          cases hF : F r1 with
          | nx r2 => rw [hF] at p'; exact fun σ4 S4 H4 e4 => fin σ4 S4 H4 r2 e4 p'
          | ct r2 => rw [hF] at p'; exact fun σ4 S4 H4 e4 => fin σ4 S4 H4 r2 e4 p'
          | bk r2 => rw [hF] at p'; exact fun σ4 S4 H4 e4 => p' σ4 S4 H4 (e4.unbase ok3.fwd)
          | rt d => rw [hF] at p'; exact PostS.rebase (c := c) (o := .rt d) (E := E) ok3.fwd p'
          | er r2 n ns vs => rw [hF] at p'; exact PostS.rebase (c := c) (o := .er r2 n ns vs) (E := E) ok3.fwd p'
          | bad => rw [hF] at p'; exact p'.elim
      · rintro σ' H' ⟨S', r', e1, ok', p'⟩
        rw [List.drop_length] at p'
        exact ⟨S0, H0, S', r', ok', p'⟩
end
section
variable {N B C : Rho → Prop} {R : D → Prop} {E : Rho → Str → List Str → List D → Prop} {t : D → Rho → Res Rho} {F K : Rho → SR}
/-- for .. else: I by the number of turns; at the end the else part -/
theorem ss_loopE (I : Nat → Rho → Prop) : ∀ (ds : List D) (k : Nat) (r : Rho), I k r → (∀ i d r, ds[i]? = some d → I (k + i) r → ∃ r1, t d r = .ok r1 ∧ Ss (F r1) (I (k + i + 1)) R N (I (k + i + 1)) E) → (∀ r, I (k + ds.length) r → Ss (K r) N R B C E) → Ss (loopE t F K ds r) N R B C E
  | [], k, r, h0, _, he => he r h0
  | d :: ds, k, r, h0, hs, he => by
    obtain ⟨r1, h1, h2⟩ := hs 0 d r rfl h0
    unfold loopE
    rw [h1]
    dsimp only
    have next : ∀ r2, I (k + 1) r2 → Ss (loopE t F K ds r2) N R B C E := fun r2 q => ss_loopE I ds (k + 1) r2 q (fun i d r hd hr => by
      have := hs (i + 1) d r (by simpa using hd) (by rw [show k + (i + 1) = k + 1 + i from by omega]; exact hr)
      rw [show k + (i + 1) = k + 1 + i from by omega] at this
      exact this) fun r hr => he r (by rw [List.length_cons, show k + (ds.length + 1) = k + 1 + ds.length from by omega]; exact hr)
    cases e : F r1 with
    | nx r2 => rw [e] at h2; exact next r2 h2
    | ct r2 => rw [e] at h2; exact next r2 h2
    | bk r2 => rw [e] at h2; exact h2
    | rt d => rw [e] at h2; exact h2
    | er r n ns vs => rw [e] at h2; exact h2
    | bad => rw [e] at h2; exact h2
theorem ss_forE {its : Rho → Res (List D)} {r : Rho} (I : Nat → Rho → Prop) (h : Rs (its r) (fun ds => I 0 r ∧ (∀ i d r, ds[i]? = some d → I i r → ∃ r1, t d r = .ok r1 ∧ Ss (F r1) (I (i + 1)) R N (I (i + 1)) E) ∧ (∀ r, I ds.length r → Ss (K r) N R B C E)) (E r)) : Ss (forEF its t F K r) N R B C E :=
  ss_lift (h.impE (fun ds q => ss_loopE I ds 0 r q.1 (fun i d r hd hr => by rw [Nat.zero_add] at hr ⊢; exact q.2.1 i d r hd hr) fun r hr => q.2.2 r (by rw [Nat.zero_add] at hr; exact hr)) fun _ _ _ z => z)
end
end Dx
end S_DxAU
section S_DxAV
set_option Elab.async false
set_option linter.all false
set_option maxRecDepth 100000
set_option maxHeartbeats 2000000
namespace Dx
open PySem L2 ItX
open PyProof.Rows hiding St
section
variable {X : Cx} {c : Cf} {L G : List Ow} {f1 f2 : Rho → Res D} {a b : Expr} {pos : Pos}
theorem ds_parVO (i j : Nat) {x y : Str} {px py pt pt2 : Pos} {kt k2 : Nat} (hg : Gok c G) (hc : X.calm = true) (hN : X.N.Nodup) (hi : X.N[i]? = some x) (hj : X.N[j]? = some y) (hij : i ≠ j) (hGj : j < G.length)
    (hx : X.env.scope.names.lookup x = some .local) (hy : X.env.scope.names.lookup y = some .local) (ha : PE X a (tV c G f1)) (hb : PE X b (tO c G f2))
    (hw : swappedStores [.Tuple [.Name x px, .Name y py] kt pt] (.Tuple [a, b] k2 pt2) X.env = pure (some [x, y]))
    (hs : swapsWithSole [.Tuple [.Name x px, .Name y py] kt pt] (.Tuple [a, b] k2 pt2) pos.line X.env = pure false := by rfl)
    (hs1 : starEach [a, b] X.env = (false, eval a X.env) :: starEach [b] X.env := by rfl) (hs2 : starEach [b] X.env = (false, eval b X.env) :: starEach [] X.env := by rfl) :
    PS X (.Assign [.Tuple [.Name x px, .Name y py] kt pt] (.Tuple [a, b] k2 pt2) pos) (sD c L G ((G.set i .v).set j .o) (parF i j f1 f2)) :=
  ps_imp (ps_par hc hN hi hj hij hx hy (pa_cons ha (pa_cons hb pa_nil hs2) hs1) hw hs) fun E σ H ⟨S0, H0, S, r, ok, p⟩ => by
    have p' : PostS c S0 H0 L ((G.set i .v).set j .o) (liftS r (f1 r) fun d => liftS r (f2 r) fun e => .nx ((r.set i (some d)).set j (some e))) E := by
      unfold parF dCons dNil at p
      cases h1 : f1 r with
      | ok d =>
        rw [h1] at p
        cases h2 : f2 r with
        | ok e => rw [h2] at p; exact p
        | err n ns vs => rw [h2] at p; exact p
        | bad => rw [h2] at p; exact p
      | err n ns vs => rw [h1] at p; exact p
      | bad => rw [h1] at p; exact p
    refine st_seq hg ok p' fun d v S1 H1 w1 o1 m1 p1 => st_seq hg o1 p1 fun e u S2 H2 w2 o2 m2 p2 => ?_
    obtain ⟨q2, ho2, rfl, n2, ns2, hp2, h2⟩ := m2
    have e1 := o1.setV i m1
    have e2 := e1.setO w2 j (by rw [List.length_set]; exact hGj) n2 ns2 hp2 h2
    exact ⟨_, _, rfl, p2 _ S2 H2 e2⟩
end
def enumX (d : D) : Res (List D) := (itemsX d).bind fun ds => .ok (numd 0 ds)
section
variable {X : Cx} {c : Cf} {G : List Ow} {tg : Expr} {pos : Pos}
theorem di_varX (i : Nat) {x : Str} (he : PE X (.Name x pos) (tVar i)) (k : kd G i = .v) (hK : c.K = X.K := by rfl) : PI X tg (.Name x pos) (iD c G (dIt itemsX (dVar i))) := pi_imp (pi_or (pi_list he) (pi_tup he)) fun σ H R ⟨S0, H0, S, r, ok, p⟩ => by
  obtain ⟨d, hd, p⟩ := of_dVar (p.unbind)
  obtain ⟨v, h1, h2⟩ := ok.slot i d hd
  rw [k] at h2
  have p1 := p.go ok.ex
  rw [← hK]
  have h2 : Rp c.K c.cm S v d := h2
  cases d with
  | lst ds =>
    cases h2 with | @lst q xs _ h rr =>
    exact .inl ⟨_, h1, q, rfl, ⟨xs, .inl (.inl (ok.ex _ _ h))⟩, p1.go ok.ex _ (gives_list (.inl (.inl h)) rr)⟩
  | fz ds =>
    cases h2 with | @fz q xs _ h rr =>
    exact .inl ⟨_, h1, q, rfl, ⟨xs, ok.ex.l h⟩, p1.go ok.ex _ (gives_list h rr)⟩
  | kt ds =>
    cases h2 with | @kt q xs _ h rr =>
    exact .inr ⟨_, h1, q, rfl, ⟨xs, ok.ex.t h⟩, p1.go ok.ex _ (gives_tup h rr)⟩
  | tup ds =>
    cases h2 with | @tup q xs _ h rr =>
    exact .inr ⟨_, h1, q, rfl, ⟨xs, .inl (.inl (ok.ex _ _ h))⟩, p1.go ok.ex _ (gives_tup (.inl (.inl h)) rr)⟩
  | _ => exact p1.elim
theorem di_enumX (i : Nat) {x : Str} {p px tpos : Pos} {elts : List Expr} {kk : Nat} (hm : X.mg "enumerate" = none) (hg : Gl X "enumerate") (he : PE X (.Name x px) (tVar i)) (k : kd G i = .v) (hK : c.K = X.K := by rfl) (hs : starEach [.Name x px] X.env = (false, eval (.Name x px) X.env) :: starEach [] X.env := by rfl) :
    PI X (.Tuple elts kk tpos) (.Call (.Name "enumerate" p) [.Name x px] [] pos) (iD c G (dIt enumX (dVar i))) :=
  pi_imp (pi_or (pi_enum hg hm (pa_cons he pa_nil hs) hs) (pi_enT hg hm (pa_cons he pa_nil hs) hs)) fun σ H R ⟨S0, H0, S, r, ok, p⟩ => by
    obtain ⟨d, hd, p⟩ := of_dVar (p.unbind)
    obtain ⟨v, h1, h2⟩ := ok.slot i d hd
    rw [k] at h2
    have p1 := p.go ok.ex
    rw [← hK]
    have h2 : Rp c.K c.cm S v d := h2
    cases d with
    | lst ds =>
      cases h2 with | @lst q xs _ h rr =>
      exact .inl ⟨_, h1, q, xs, rfl, .inl (.inl (ok.ex _ _ h)), PostG.go (show PostG c σ S H (.ok (numd 0 ds)) _ from p1) ok.ex _ ⟨_, _, by rw [numd_len, ← rr.length]; exact walk_enum (K := c.K) (a := q) (xs := xs), fun S'' H'' e1 e2 _ => (show SqL c.K H'' q xs from .inl (.inl (e2 _ _ (e1 _ _ h)))), YOk.num rr⟩⟩
    | fz ds =>
      cases h2 with | @fz q xs _ h rr =>
      exact .inl ⟨_, h1, q, xs, rfl, ok.ex.l h, PostG.go (show PostG c σ S H (.ok (numd 0 ds)) _ from p1) ok.ex _ ⟨_, _, by rw [numd_len, ← rr.length]; exact walk_enum (K := c.K) (a := q) (xs := xs), fun S'' H'' e1 e2 _ => (show SqL c.K H'' q xs from e2.l (e1.l h)), YOk.num rr⟩⟩
    | kt ds =>
      cases h2 with | @kt q xs _ h rr =>
      exact .inr ⟨_, h1, q, xs, rfl, ok.ex.t h, PostG.go (show PostG c σ S H (.ok (numd 0 ds)) _ from p1) ok.ex _ ⟨_, _, by rw [numd_len, ← rr.length]; exact walk_enT (K := c.K), fun S'' H'' e1 e2 _ => (show SqT c.K H'' q xs from e2.t (e1.t h)), YOk.num rr⟩⟩
    | tup ds =>
      cases h2 with | @tup q xs _ h rr =>
      exact .inr ⟨_, h1, q, xs, rfl, .inl (.inl (ok.ex _ _ h)), PostG.go (show PostG c σ S H (.ok (numd 0 ds)) _ from p1) ok.ex _ ⟨_, _, by rw [numd_len, ← rr.length]; exact walk_enT (K := c.K), fun S'' H'' e1 e2 _ => (show SqT c.K H'' q xs from .inl (.inl (e2 _ _ (e1 _ _ h)))), YOk.num rr⟩⟩
    | _ => exact p1.elim
end
theorem kbn_k {K : PySem.W.Frag} {fd : FuncData} {ps ks names : List Str} {D0 : Addr} {mv : List Value} {dvs : List V} (n : Nat) (hv : Vals dvs mv) (hks : ∀ q ∈ names.zip mv, PySem.W.nsIn K D0 q.1 = some (some q.2))
    (h : ∀ us ws : List Value, us.length = n → ws.length = ks.length → KwChain D0 (names.zip mv) (bindArgs fd ⟨us, ks.zip ws⟩) (ps.zip (us ++ ws ++ mv))) : KBn K fd ps n ks (fun us ws => us ++ ws ++ mv) (fun vs zs => vs ++ zs ++ dvs) :=
  ⟨fun s us ws X l1 l2 => BindsTo.of_looks fun M => KwChain.looks X hks (h us ws l1 l2), fun h1 h2 => (h1.append h2).append hv⟩
section
variable {X : Cx} {c : Cf} {L G G' : List Ow} {fs gs : Rho → Res (List D)} {e : Expr} {es : List Expr} {kws : List Keyword} {pos p : Pos} {C : Addr}
variable {k n : Nat} {fa : Addr} {fd : FuncData} {ps ks : List Str} {ms1 ms2 ms3 : List Bool} {F : List D → Res D} {dvs : List V} {mv : List Value} {dd : List D}
/-- the first keyword-only parameters are written, in their order; the others are dd -/
def dMakeKD (F : List D → Res D) (fs gs : Rho → Res (List D)) (dd : List D) : Rho → Res D := fun r => (fs r).bind fun ds => (gs r).bind fun es => F (ds ++ es ++ dd)
theorem de_makeKD {x : Str} (M : Mk X.K C fa) (F1 : FnOk X.prog X.w X.K X.mg X.base (L2.CX X.prog X.w) k fa fd ps (spI c.K c.cm C (ms1 ++ ms2 ++ ms3) F)) (tk : Takes X c.W) (hr : Room (k + 1) X.A) (hg : Gl X x) (hm : X.mg x = some (.ref C)) (hb : KBn X.K fd ps (n + 1) ks (fun us ws => us ++ ws ++ mv) (fun vs zs => vs ++ zs ++ dvs))
    (hv : ∀ S H, RpM c S H ms3 dvs dd) (ha : PA X (e :: es) (tM c G ms1 fs)) (hkw : PK X kws (tM c G ms2 gs)) (hl1 : ms1.length = n := by rfl) (hl2 : ms2.length = ks.length := by rfl)
    (hall : (backToKw pos (keywordEach kws X.env)).all (·.1.isSome) = true := by rfl) (hks : (backToKw pos (keywordEach kws X.env)).filterMap (·.1) = ks := by rfl) (hdb : (x == ("__debug__" : Str)) = false := by decide)
    (he : starEach (e :: es) X.env = (false, eval e X.env) :: starEach es X.env := by rfl) (hpl : ((backTo pos (starEach (e :: es) X.env)).any (·.1) || (backToKw pos (keywordEach kws X.env)).any (·.1.isNone)) = false := by rfl) :
    PE X (.Call (.Name x p) (e :: es) kws pos) (tO c G (dMakeKD F fs gs dd)) :=
  pe_imp (pe_makeKS (E := fun σ cls d H => c.W cls d σ H) M F1 hr hg hm hb (fun σ => passAt tk σ) ha hkw hall hks hdb he hpl) fun σ H Q ⟨S0, H0, S, r, ok, q⟩ => rd_seq ok q fun ds vs S1 H1 w1 o1 m1 p1 => rd_seq o1 p1 fun es zs S2 H2 w2 o2 m2 p2 =>
    ⟨by rw [RpM.length m1, hl1], by rw [RpM.length m2, hl2], fun x dx hx hdx hne => make_rd (ms := ms1 ++ ms2 ++ ms3) (fun _ _ _ h => h) o2.ex (rpM_app (rpM_app (RpM.mono w2.s w2.h m1) m2) (hv _ _)) hx hdx hne (p2.anti (w1.h.trans w2.h))⟩
end
section
variable {Q : D → Prop} {E : Str → List Str → List D → Prop} {r : Rho} {fs gs : Rho → Res (List D)} {dd : List D}
theorem rs_mkKD {F : List D → Res D} (h : Rs (fs r) (fun ds => Rs (gs r) (fun es => Rs (F (ds ++ es ++ dd)) Q E) E) E) : Rs (dMakeKD F fs gs dd r) Q E := Rs.bind (h.impE (fun ds q => Rs.bind q) fun _ _ _ z => z)
end
end Dx
end S_DxAV
section S_P_data
set_option Elab.async false
set_option linter.all false
set_option maxRecDepth 100000
namespace Lk
open PySem L2 Dx
noncomputable section
def isM_BadLaying : Str → Option Bool := fun n => if n = "BadBook" then some false else if n = "BadLaying" then some true else if n = "NoSuchNumber" then some false else if n = "TooLarge" then some false else none
def isM_LaidError : Str → Option Bool := fun n => if n = "BadBook" then some true else if n = "BadLaying" then some true else if n = "NoSuchNumber" then some true else if n = "TooLarge" then some true else none
def FbH_l_number : Rho → SR := (retF (dAndV (dUn (isiD "int") (dVar 0)) (dNotV (dUn (isiD "bool") (dVar 0)))))
def FH_l_number : List D → Res D := runF 1 false FbH_l_number
def Fb_Galley_pieces : Rho → SR := (retF (dCall (g1 listD) (dCons (dUn (fldD "Galley" "all_pieces") (dVar 0)) dNil)))
def F_Galley_pieces : List D → Res D := runF 1 false Fb_Galley_pieces
def Fb_Galley_block_at : Rho → SR := (seqF (ifF (dNot (dT (dChain leD ltD (dC (.int 0)) (dVar 1) (dCall (g1 lenD) (dCons (dUn (fldD "Galley" "spans") (dVar 0)) dNil))))) (raiF "NoSuchNumber" ["number"] false (dCons (dVar 1) dNil)) .nx) (retF (dOp ixD (dUn (fldD "Galley" "spans") (dVar 0)) (dVar 1))))
def F_Galley_block_at : List D → Res D := runF 2 false Fb_Galley_block_at
def Lp_bare_width_1 : Rho → SR := (seqF (setF 5 (dOp addD (dVar 5) (dOp ixD (dVar 6) (dC (.int 0))))) (ifF (dT (dOp eqD (dOp ixD (dOp ixD (dVar 6) (dC (.int 1))) (dC (.int 0))) (dC (.str (Sg [98, 108, 97, 110, 107]))))) (setF 5 (dOp addD (dVar 5) (dOp ixD (dOp ixD (dVar 6) (dC (.int 1))) (dC (.int 1))))) .nx))
def Fb_bare_width : Rho → SR := (seqF (setF 3 (dMeth "Galley" "block_at" F_Galley_block_at (dVar 0) (dCons (dVar 1) dNil))) (seqF (setF 4 (dProp "Galley" F_Galley_pieces (dVar 0))) (seqF (setF 5 (dOp ixD (dOp ixD (dVar 4) (dOp subD (dVar 2) (dC (.int 1)))) (dC (.int 0)))) (seqF (ifF (dT (dOp eqD (dVar 1) (dOp ixD (dVar 3) (dC (.int 1))))) (setF 5 (dOp addD (dVar 5) (dOp ixD (dOp ixD (dCall (g1 (listO "Galley" "blocks" "all_pieces")) (dCons (dVar 0) dNil)) (dOp ixD (dVar 3) (dC (.int 0)))) (dC (.int 1))))) .nx) (seqF (forF (dIt itemsL (dSl slD (dVar 4) (dPart (dVar 1)) (dPart (dOp subD (dVar 2) (dC (.int 1)))))) (tgN 6) Lp_bare_width_1) (retF (dVar 5)))))))
def F_bare_width : List D → Res D := runF 7 false Fb_bare_width
def Fb_line_width : Rho → SR := (seqF (setF 3 (dCall F_bare_width (dCons (dVar 0) (dCons (dVar 1) (dCons (dVar 2) dNil))))) (seqF (setF 4 (dOp ixD (dOp ixD (dProp "Galley" F_Galley_pieces (dVar 0)) (dOp subD (dVar 2) (dC (.int 1)))) (dC (.int 1)))) (seqF (ifF (dT (dOp eqD (dOp ixD (dVar 4) (dC (.int 0))) (dC (.str (Sg [106, 111, 105, 110, 116]))))) (setF 3 (dOp addD (dVar 3) (dOp ixD (dVar 4) (dC (.int 1))))) .nx) (retF (dVar 3)))))
def F_line_width : List D → Res D := runF 5 false Fb_line_width
def Fb_line_gap : Rho → SR := (seqF (ifF (dT (dOp eqD (dVar 3) (dOp ixD (dMeth "Galley" "block_at" F_Galley_block_at (dVar 0) (dCons (dVar 2) dNil)) (dC (.int 2))))) (retF (dC (.int 0))) .nx) (retF (dCall (g2 (intsD max2)) (dCons (dC (.int 0)) (dCons (dOp subD (dUn (fldD "Book" "room") (dVar 1)) (dCall F_line_width (dCons (dVar 0) (dCons (dVar 2) (dCons (dVar 3) dNil))))) dNil)))))
def F_line_gap : List D → Res D := runF 4 false Fb_line_gap
def Fb_line_cost : Rho → SR := (seqF (setF 4 (dCall F_line_gap (dCons (dVar 0) (dCons (dVar 1) (dCons (dVar 2) (dCons (dVar 3) dNil)))))) (seqF (setF 5 (dCall (g2 (intsD max2)) (dCons (dC (.int 0)) (dCons (dOp subD (dCall F_line_width (dCons (dVar 0) (dCons (dVar 2) (dCons (dVar 3) dNil)))) (dUn (fldD "Book" "room") (dVar 1))) dNil)))) (seqF (setF 6 (dOp addD (dOp mulX (dVar 4) (dVar 4)) (dOp mulX (dUn (fldD "Book" "over") (dVar 1)) (dVar 5)))) (seqF (ifF (dT (dOp eqD (dOp ixD (dOp ixD (dOp ixD (dProp "Galley" F_Galley_pieces (dVar 0)) (dOp subD (dVar 3) (dC (.int 1)))) (dC (.int 1))) (dC (.int 0))) (dC (.str (Sg [106, 111, 105, 110, 116]))))) (setF 6 (dOp addD (dVar 6) (dUn (fldD "Book" "joint") (dVar 1)))) .nx) (retF (dVar 6))))))
def F_line_cost : List D → Res D := runF 7 false Fb_line_cost
def Lp_line_ends_1 : Rho → SR := (seqF (ifF (dT (dOp gtD (dCall F_bare_width (dCons (dVar 0) (dCons (dVar 2) (dCons (dVar 4) dNil)))) (dUn (fldD "Book" "room") (dVar 1)))) .bk .nx) (ifF (dT (dOp leD (dCall F_line_width (dCons (dVar 0) (dCons (dVar 2) (dCons (dVar 4) dNil)))) (dUn (fldD "Book" "room") (dVar 1)))) (appF 3 (dVar 4)) .nx))
def Fb_line_ends : Rho → SR := (seqF (setF 3 (dLst (dCons (dOp addD (dVar 2) (dC (.int 1))) dNil))) (seqF (forF (dIts rng2 (dCons (dOp addD (dVar 2) (dC (.int 2))) (dCons (dOp addD (dOp ixD (dMeth "Galley" "block_at" F_Galley_block_at (dVar 0) (dCons (dVar 2) dNil)) (dC (.int 2))) (dC (.int 1))) dNil))) (tgN 4) Lp_line_ends_1) (retF (dVar 3))))
def F_line_ends : List D → Res D := runF 5 true Fb_line_ends
def Lp_line_need_1 : Rho → SR := (setF 5 (dOp addD (dVar 5) (dCall (g1 sumTD) (dCons (dOp ixD (dVar 6) (dC (.int 2))) dNil))))
def Fb_line_need : Rho → SR := (seqF (setF 3 (dMeth "Galley" "block_at" F_Galley_block_at (dVar 0) (dCons (dVar 1) dNil))) (seqF (setF 4 (dOp ixD (dCall (g1 (listO "Galley" "blocks" "all_pieces")) (dCons (dVar 0) dNil)) (dOp ixD (dVar 3) (dC (.int 0))))) (seqF (setF 5 (dOp ixD (dVar 4) (dC (.int 0)))) (seqF (ifF (dT (dOp eqD (dVar 1) (dOp ixD (dVar 3) (dC (.int 1))))) (setF 5 (dOp addD (dVar 5) (dOp ixD (dVar 4) (dC (.int 2))))) .nx) (seqF (forF (dIt itemsL (dSl slD (dProp "Galley" F_Galley_pieces (dVar 0)) (dPart (dVar 1)) (dPart (dVar 2)))) (tgN 6) Lp_line_need_1) (retF (dVar 5)))))))
def F_line_need : List D → Res D := runF 7 false Fb_line_need
def Fb_turn_cost : Rho → SR := (seqF (asgF (tgT 4 (tgCons (tgN 4) (tgCons (tgN 5) (tgCons (tgN 6) (tgCons (tgN 7) tgNil))))) (dVar 2)) (seqF (asgF (tgT 3 (tgCons (tgN 8) (tgCons (tgN 9) (tgCons (tgN 10) tgNil)))) (dMeth "Galley" "block_at" F_Galley_block_at (dVar 0) (dCons (dVar 4) dNil))) (seqF (setF 11 (dCall (g2 (intsD max2)) (dCons (dC (.int 0)) (dCons (dOp subD (dUn (fldD "Book" "height") (dVar 1)) (dVar 5)) dNil)))) (seqF (setF 12 (dOp mulX (dVar 11) (dVar 11))) (seqF (ifF (dAnd (dT (dOp eqD (dVar 4) (dVar 9))) (dTru (dOp ixD (dOp ixD (dCall (g1 (listO "Galley" "blocks" "all_pieces")) (dCons (dVar 0) dNil)) (dOp subD (dVar 8) (dC (.int 1)))) (dC (.int 3))))) (setF 12 (dOp addD (dVar 12) (dUn (fldD "Book" "keep") (dVar 1)))) .nx) (seqF (ifF (dTru (dVar 7)) (setF 12 (dOp addD (dVar 12) (dUn (fldD "Book" "orphan") (dVar 1)))) .nx) (seqF (ifF (dAnd (dT (dOp ltD (dVar 9) (dVar 4))) (dT (dOp eqD (dVar 3) (dVar 10)))) (setF 12 (dOp addD (dVar 12) (dUn (fldD "Book" "widow") (dVar 1)))) .nx) (retF (dVar 12)))))))))
def F_turn_cost : List D → Res D := runF 13 false Fb_turn_cost
def Fb_called_ahead : Rho → SR := (retF (dCall (g1 sumD) (dCons (dLc (dIt itemsL (dSl slD (dProp "Galley" F_Galley_pieces (dVar 0)) dNoP (dPart (dVar 1)))) (tgN 2) dYes (dCall (g1 lenD) (dCons (dOp ixD (dVar 2) (dC (.int 3))) dNil)) [2]) dNil)))
def F_called_ahead : List D → Res D := runF 3 false Fb_called_ahead
def Fb_Galley_figures : Rho → SR := (retF (dCall (g1 listD) (dCons (dUn (fldD "Galley" "all_figures") (dVar 0)) dNil)))
def F_Galley_figures : List D → Res D := runF 1 false Fb_Galley_figures
def Lp_moves_to_1 : Rho → SR := (seqF (setF 15 (dCall (g1 sumD) (dCons (dSl slD (dProp "Galley" F_Galley_figures (dVar 0)) (dPart (dVar 6)) (dPart (dOp addD (dVar 6) (dVar 14)))) dNil))) (ifF (dOr (dT (dOp eqD (dVar 14) (dC (.int 0)))) (dT (dOp leD (dOp addD (dVar 15) (dVar 9)) (dUn (fldD "Book" "height") (dVar 1))))) (seqF (setF 16 (dOp mulX (dUn (fldD "Book" "wait") (dVar 1)) (dOp subD (dVar 13) (dVar 14)))) (appF 12 (dTup (dCons (dTup (dCons (dVar 3) (dCons (dVar 14) dNil))) (dCons (dOp addD (dVar 10) (dVar 16)) (dCons (dTup (dCons (dVar 3) (dCons (dOp addD (dVar 15) (dVar 9)) (dCons (dOp addD (dVar 6) (dVar 14)) (dCons (dVar 11) dNil))))) dNil)))))) .nx))
def Fb_moves_to : Rho → SR := (seqF (asgF (tgT 4 (tgCons (tgN 4) (tgCons (tgN 5) (tgCons (tgN 6) (tgCons (tgN 7) tgNil))))) (dVar 2)) (seqF (setF 8 (dMeth "Galley" "block_at" F_Galley_block_at (dVar 0) (dCons (dVar 4) dNil))) (seqF (setF 9 (dCall F_line_need (dCons (dVar 0) (dCons (dVar 4) (dCons (dVar 3) dNil))))) (seqF (setF 10 (dCall F_line_cost (dCons (dVar 0) (dCons (dVar 1) (dCons (dVar 4) (dCons (dVar 3) dNil)))))) (seqF (setF 11 (dAndV (dOp eqD (dVar 4) (dOp ixD (dVar 8) (dC (.int 1)))) (dOp ltD (dVar 3) (dOp ixD (dVar 8) (dC (.int 2)))))) (seqF (ifF (dT (dOp eqD (dVar 4) (dC (.int 0)))) (retF (dLst (dCons (dTup (dCons (dTup (dCons (dVar 3) (dCons (dC (.int 0)) dNil))) (dCons (dVar 10) (dCons (dTup (dCons (dVar 3) (dCons (dVar 9) (dCons (dC (.int 0)) (dCons (dVar 11) dNil))))) dNil)))) dNil))) .nx) (seqF (setF 12 (dLst dNil)) (seqF (ifF (dT (dOp leD (dOp addD (dVar 5) (dVar 9)) (dUn (fldD "Book" "height") (dVar 1)))) (appF 12 (dTup (dCons (dTup (dCons (dVar 3) (dCons (dC .non) dNil))) (dCons (dVar 10) (dCons (dTup (dCons (dVar 3) (dCons (dOp addD (dVar 5) (dVar 9)) (dCons (dVar 6) (dCons (dVar 11) dNil))))) dNil))))) .nx) (seqF (setF 10 (dOp addD (dVar 10) (dCall F_turn_cost (dCons (dVar 0) (dCons (dVar 1) (dCons (dVar 2) (dCons (dVar 3) dNil))))))) (seqF (setF 13 (dOp subD (dCall F_called_ahead (dCons (dVar 0) (dCons (dVar 4) dNil))) (dVar 6))) (seqF (forF (dIts rng1 (dCons (dOp addD (dVar 13) (dC (.int 1))) dNil)) (tgN 14) Lp_moves_to_1) (retF (dVar 12)))))))))))))
def F_moves_to : List D → Res D := runF 17 true Fb_moves_to
def Fb_Galley_len : Rho → SR := (retF (dCall (g1 lenD) (dCons (dUn (fldD "Galley" "all_pieces") (dVar 0)) dNil)))
def F_Galley_len : List D → Res D := runF 1 false Fb_Galley_len
def Lp_moves_of_1 : Rho → SR := (extF 4 (dCall F_moves_to (dCons (dVar 0) (dCons (dVar 1) (dCons (dVar 2) (dCons (dVar 5) dNil))))))
def Fb_moves_of : Rho → SR := (seqF (setF 3 (dOp ixD (dVar 2) (dC (.int 0)))) (seqF (ifF (dT (dOp eqD (dVar 3) (dCall (g1 (lenO "Galley" F_Galley_len)) (dCons (dVar 0) dNil)))) (retF (dLst dNil)) .nx) (seqF (setF 4 (dLst dNil)) (seqF (forF (dIt itemsL (dCall F_line_ends (dCons (dVar 0) (dCons (dVar 1) (dCons (dVar 3) dNil))))) (tgN 5) Lp_moves_of_1) (retF (dVar 4))))))
def F_moves_of : List D → Res D := runF 6 true Fb_moves_of
def Lp_made_moves_1 : Rho → SR := (ifF (dT (dOp eqD (dOp ixD (dVar 7) (dC (.int 0))) (dVar 6))) .bk .nx)
def Lp_made_moves_2 : Rho → SR := (seqF (forEF (dIt itemsL (dCall F_moves_of (dCons (dVar 0) (dCons (dVar 1) (dCons (dVar 4) dNil))))) (tgN 7) Lp_made_moves_1 (raiF "BadLaying" ["step"] false (dCons (dVar 5) dNil))) (seqF (appF 3 (dVar 7)) (setF 4 (dOp ixD (dVar 7) (dC (.int 2))))))
def Fb_made_moves : Rho → SR := (seqF (setF 3 (dLst dNil)) (seqF (setF 4 (dC (.kt [.int 0, .int 0, .int 0, .bl false]))) (seqF (forF (dIt enumT (dVar 2)) (tgT 2 (tgCons (tgN 5) (tgCons (tgN 6) tgNil))) Lp_made_moves_2) (seqF (ifF (dT (dOp ltD (dOp ixD (dVar 4) (dC (.int 0))) (dCall (g1 (lenO "Galley" F_Galley_len)) (dCons (dVar 0) dNil)))) (raiF "BadLaying" ["step"] false (dCons (dCall (g1 lenD) (dCons (dVar 2) dNil)) dNil)) .nx) (retF (dVar 3))))))
def F_made_moves : List D → Res D := runF 8 true Fb_made_moves
def Fb_states_of : Rho → SR := (retF (dOp addL (dLst (dCons (dC (.kt [.int 0, .int 0, .int 0, .bl false])) dNil)) (dLc (dIt itemsL (dCall F_made_moves (dCons (dVar 0) (dCons (dVar 1) (dCons (dVar 2) dNil))))) (tgN 3) dYes (dOp ixD (dVar 3) (dC (.int 2))) [3])))
def F_states_of : List D → Res D := runF 4 true Fb_states_of
def Fb_is_forbidden : Rho → SR := (seqF (asgF (tgT 3 (tgCons (tgN 6) (tgCons (tgN 7) (tgCons (tgN 8) tgNil)))) (dMeth "Galley" "block_at" F_Galley_block_at (dVar 0) (dCons (dOp ixD (dVar 3) (dC (.int 0))) dNil))) (seqF (ifF (dT (dOp eqD (dOp ixD (dVar 2) (dC (.int 0))) (dC (.str (Sg [108, 111, 111, 115, 101]))))) (retF (dOp gtD (dCall F_line_gap (dCons (dVar 0) (dCons (dVar 1) (dCons (dOp ixD (dVar 3) (dC (.int 0))) (dCons (dOp ixD (dVar 4) (dC (.int 0))) dNil))))) (dOp ixD (dVar 2) (dC (.int 1))))) .nx) (seqF (ifF (dT (dOp eqD (dOp ixD (dVar 2) (dC (.int 0))) (dC (.str (Sg [102, 105, 116, 115]))))) (retF (dOrV (dOp gtD (dCall F_line_width (dCons (dVar 0) (dCons (dOp ixD (dVar 3) (dC (.int 0))) (dCons (dOp ixD (dVar 4) (dC (.int 0))) dNil)))) (dUn (fldD "Book" "room") (dVar 1))) (dOp gtD (dOp ixD (dVar 5) (dC (.int 1))) (dUn (fldD "Book" "height") (dVar 1))))) .nx) (seqF (ifF (dOr (dT (dOp (isD false) (dOp ixD (dVar 4) (dC (.int 1))) (dC .non))) (dT (dOp eqD (dOp ixD (dVar 3) (dC (.int 0))) (dC (.int 0))))) (retF (dC (.bl false))) .nx) (seqF (ifF (dT (dOp eqD (dOp ixD (dVar 2) (dC (.int 0))) (dC (.str (Sg [107, 101, 101, 112]))))) (retF (dAndV (dOp eqD (dOp ixD (dVar 3) (dC (.int 0))) (dVar 7)) (dOp ixD (dOp ixD (dCall (g1 (listO "Galley" "blocks" "all_pieces")) (dCons (dVar 0) dNil)) (dOp subD (dVar 6) (dC (.int 1)))) (dC (.int 3))))) .nx) (seqF (ifF (dT (dOp eqD (dOp ixD (dVar 2) (dC (.int 0))) (dC (.str (Sg [111, 114, 112, 104, 97, 110]))))) (retF (dOp ixD (dVar 3) (dC (.int 3)))) .nx) (seqF (ifF (dT (dOp eqD (dOp ixD (dVar 2) (dC (.int 0))) (dC (.str (Sg [119, 105, 100, 111, 119]))))) (retF (dAndV (dOp ltD (dVar 7) (dOp ixD (dVar 3) (dC (.int 0)))) (dOp eqD (dOp ixD (dVar 4) (dC (.int 0))) (dVar 8)))) .nx) (retF (dOp gtD (dOp subD (dUn (fldD "Book" "height") (dVar 1)) (dOp ixD (dVar 3) (dC (.int 1)))) (dOp ixD (dVar 2) (dC (.int 1))))))))))))
def F_is_forbidden : List D → Res D := runF 9 false Fb_is_forbidden
def Lp_broken_at_1 : Rho → SR := (ifF (dT (dCall F_is_forbidden (dCons (dVar 0) (dCons (dVar 1) (dCons (dVar 3) (dCons (dOp ixD (dVar 4) (dVar 5)) (dCons (dOp ixD (dVar 2) (dVar 5)) (dCons (dOp ixD (dVar 4) (dOp addD (dVar 5) (dC (.int 1)))) dNil)))))))) (retF (dVar 5)) .nx)
def Fb_broken_at : Rho → SR := (seqF (setF 4 (dCall F_states_of (dCons (dVar 0) (dCons (dVar 1) (dCons (dVar 2) dNil))))) (seqF (forF (dIts rng1 (dCons (dCall (g1 lenD) (dCons (dVar 2) dNil)) dNil)) (tgN 5) Lp_broken_at_1) (retF (dC .non))))
def F_broken_at : List D → Res D := runF 6 false Fb_broken_at
def Fb_is_number : Rho → SR := (retF (dAndV (dUn (isiD "int") (dVar 0)) (dNotV (dUn (isiD "bool") (dVar 0)))))
def F_is_number : List D → Res D := runF 1 false Fb_is_number
def Fb_is_within : Rho → SR := (retF (dAndV (dCall F_is_number (dCons (dVar 0) dNil)) (dChain leD leD (dVar 1) (dVar 0) (dVar 2))))
def F_is_within : List D → Res D := runF 3 false Fb_is_within
def Lp_Book_init_1 : Rho → SR := (ifF (dNot (dT (dCall F_is_within (dCons (dVar 14) (dCons (dVar 15) (dCons (dVar 16) dNil)))))) (raiF "BadBook" ["field"] false (dCons (dVar 13) dNil)) .nx)
def Fb_Book_init : Rho → SR := (seqF (setF 12 (dTup (dCons (dVar 1) (dCons (dVar 2) (dCons (dVar 3) (dCons (dVar 4) (dCons (dVar 5) (dCons (dVar 6) (dCons (dVar 7) (dCons (dVar 8) (dCons (dVar 9) (dCons (dVar 10) dNil)))))))))))) (seqF (forF (dIts zip4T (dCons (dC (.kt [.str "room", .str "height", .str "joint", .str "over", .str "keep", .str "orphan", .str "widow", .str "wait", .str "columns", .str "gutter", .str "full"])) (dCons (dVar 12) (dCons (dC (.kt [.int 1, .int 1, .int 0, .int 0, .int 0, .int 0, .int 0, .int 0, .int 1, .int 0])) (dCons (dC (.kt [.int 2000, .int 2000, .int 2000, .int 2000, .int 2000, .int 2000, .int 2000, .int 2000, .int 4, .int 40])) dNil))))) (tgT 4 (tgCons (tgN 13) (tgCons (tgN 14) (tgCons (tgN 15) (tgCons (tgN 16) tgNil))))) Lp_Book_init_1) (seqF (ifF (dNot (dT (dUn (isiD "bool") (dVar 11)))) (raiF "BadBook" ["field"] false (dCons (dC (.str (Sg [102, 117, 108, 108]))) dNil)) .nx) (seqF (fstF 0 "Book" "room" (dVar 1)) (seqF (fstF 0 "Book" "height" (dVar 2)) (seqF (fstF 0 "Book" "joint" (dVar 3)) (seqF (fstF 0 "Book" "over" (dVar 4)) (seqF (fstF 0 "Book" "keep" (dVar 5)) (seqF (fstF 0 "Book" "orphan" (dVar 6)) (seqF (fstF 0 "Book" "widow" (dVar 7)) (seqF (fstF 0 "Book" "wait" (dVar 8)) (seqF (fstF 0 "Book" "columns" (dVar 9)) (seqF (fstF 0 "Book" "gutter" (dVar 10)) (seqF (fstF 0 "Book" "full" (dVar 11)) (fstF 0 "Book" "field_values" (dOp addD (dVar 12) (dTup (dCons (dVar 11) dNil))))))))))))))))))
def F_Book_init : List D → Res D := runI 17 "Book" Fb_Book_init
def Fb_pieces_in : Rho → SR := (retF (dLc2 (dIt itemsX (dVar 0)) (tgN 1) dYes (dIt itemsT (dOp ixD (dVar 1) (dC (.int 4)))) (tgN 2) dYes (dVar 2) [1, 2] [2]))
def F_pieces_in : List D → Res D := runF 3 false Fb_pieces_in
def Fb_figures_in : Rho → SR := (retF (dLc2 (dIt itemsL (dCall F_pieces_in (dCons (dVar 0) dNil))) (tgN 1) dYes (dIt itemsT (dOp ixD (dVar 1) (dC (.int 3)))) (tgN 2) dYes (dVar 2) [1, 2] [2]))
def F_figures_in : List D → Res D := runF 3 false Fb_figures_in
def Lp_spans_in_1 : Rho → SR := (seqF (setF 4 (dCall (g1 lenD) (dCons (dVar 1) dNil))) (seqF (setF 5 (dOp addD (dVar 4) (dCall (g1 lenD) (dCons (dOp ixD (dVar 3) (dC (.int 4))) dNil)))) (extF 1 (dOp mulX (dLst (dCons (dTup (dCons (dVar 2) (dCons (dVar 4) (dCons (dVar 5) dNil)))) dNil)) (dCall (g1 lenD) (dCons (dOp ixD (dVar 3) (dC (.int 4))) dNil))))))
def Fb_spans_in : Rho → SR := (seqF (setF 1 (dLst dNil)) (seqF (forF (dIt enumX (dVar 0)) (tgT 2 (tgCons (tgN 2) (tgCons (tgN 3) tgNil))) Lp_spans_in_1) (retF (dVar 1))))
def F_spans_in : List D → Res D := runF 6 false Fb_spans_in
def Fb_Galley_init : Rho → SR := (seqF (parF 2 3 (dCall F_pieces_in (dCons (dVar 1) dNil)) (dCall F_figures_in (dCons (dVar 1) dNil))) (seqF (ifF (dT (dOp gtD (dCall (g1 lenD) (dCons (dVar 2) dNil)) (dC (.int 40)))) (raiF "TooLarge" ["many"] false (dCons (dCall (g1 lenD) (dCons (dVar 2) dNil)) dNil)) .nx) (seqF (ifF (dT (dOp gtD (dCall (g1 lenD) (dCons (dVar 3) dNil)) (dC (.int 4)))) (raiF "TooLarge" ["many"] false (dCons (dCall (g1 lenD) (dCons (dVar 3) dNil)) dNil)) .nx) (seqF (fstF 0 "Galley" "blocks" (dCall (g1 listD) (dCons (dVar 1) dNil))) (seqF (fstF 0 "Galley" "spans" (dCall F_spans_in (dCons (dVar 1) dNil))) (seqF (fstF 0 "Galley" "all_pieces" (dVar 2)) (fstF 0 "Galley" "all_figures" (dVar 3))))))))
def F_Galley_init : List D → Res D := runI 4 "Galley" Fb_Galley_init
def Fb_l_cell : Rho → SR := (seqF (ifF (dT (dOp ltD (dVar 1) (dCall (g1 lenD) (dCons (dVar 0) dNil)))) (retF (dCall (g1 intD) (dCons (dOp ixD (dVar 0) (dVar 1)) dNil))) .nx) (retF (dC (.int 0))))
def F_l_cell : List D → Res D := runF 2 false Fb_l_cell
def Lp_l_row_1 : Rho → SR := (seqF (appF 2 (dOp modD (dCall (g1 intD) (dCons (dVar 3) dNil)) (dVar 4))) (setF 3 (dOp fdivD (dVar 3) (dVar 4))))
def Lp_l_row_2 : Rho → SR := (seqF (setF 6 (dOp modD (dCall (g1 intD) (dCons (dOp addD (dOp addD (dOp mulX (dVar 0) (dC (.int 48271))) (dOp mulX (dVar 5) (dC (.int 69621)))) (dC (.int 11))) dNil)) (dC (.int 2147483647)))) (seqF (setF 6 (dOp modD (dCall (g1 intD) (dCons (dOp addD (dOp addD (dOp mulX (dVar 6) (dOp addD (dC (.int 16807)) (dOp mulX (dC (.int 2)) (dVar 5)))) (dOp mulX (dOp mulX (dVar 5) (dVar 5)) (dC (.int 40692)))) (dC (.int 7))) dNil)) (dC (.int 2147483399)))) (appF 2 (dOp modD (dCall (g1 intD) (dCons (dOp fdivD (dVar 6) (dC (.int 31))) dNil)) (dOp ixD (dVar 1) (dVar 5))))))
def Fb_l_row : Rho → SR := (seqF (setF 2 (dLst dNil)) (seqF (ifF (dT (dOp geD (dVar 0) (dC (.int 1000000000000000000)))) (seqF (setF 3 (dOp subD (dVar 0) (dC (.int 1000000000000000000)))) (seqF (forF (dIt itemsL (dVar 1)) (tgN 4) Lp_l_row_1) (retF (dVar 2)))) .nx) (seqF (forF (dIts rng1 (dCons (dCall (g1 lenD) (dCons (dVar 1) dNil)) dNil)) (tgN 5) Lp_l_row_2) (retF (dVar 2)))))
def F_l_row : List D → Res D := runF 7 false Fb_l_row
def Fb_l_number : Rho → SR := (retF (dAndV (dUn (isiD "int") (dVar 0)) (dNotV (dUn (isiD "bool") (dVar 0)))))
def F_l_number : List D → Res D := runF 1 false Fb_l_number
def Lp_l_same_1 (Fself : List D → Res D) : Rho → SR := (ifF (dNot (dT (dCall Fself (dCons (dOp ixD (dVar 0) (dVar 2)) (dCons (dOp ixD (dVar 1) (dVar 2)) dNil))))) (retF (dC (.bl false))) .nx)
def Fb_l_same (Fself : List D → Res D) : Rho → SR := (seqF (ifF (dT (dOp (isD false) (dVar 1) (dC .non))) (retF (dOp (isD false) (dVar 0) (dC .non))) .nx) (seqF (ifF (dT (dUn (isiD "bool") (dVar 1))) (retF (dAndV (dUn (isiD "bool") (dVar 0)) (dOp eqD (dVar 0) (dVar 1)))) .nx) (seqF (ifF (dT (dUn (isiD "int") (dVar 1))) (retF (dAndV (dUn (isiD "int") (dVar 0)) (dAndV (dNotV (dUn (isiD "bool") (dVar 0))) (dOp eqD (dVar 0) (dVar 1))))) .nx) (seqF (ifF (dT (dUn (isiD "str") (dVar 1))) (retF (dAndV (dUn (isiD "str") (dVar 0)) (dOp eqD (dVar 0) (dVar 1)))) .nx) (seqF (ifF (dAnd (dT (dUn (isiD "tuple") (dVar 1))) (dNot (dT (dUn (isiD "tuple") (dVar 0))))) (retF (dC (.bl false))) .nx) (seqF (ifF (dAnd (dT (dUn (isiD "list") (dVar 1))) (dNot (dT (dUn (isiD "list") (dVar 0))))) (retF (dC (.bl false))) .nx) (seqF (ifF (dOr (dT (dUn (isiD "tuple") (dVar 1))) (dT (dUn (isiD "list") (dVar 1)))) (seqF (ifF (dT (dOp neD (dCall (g1 lenD) (dCons (dVar 0) dNil)) (dCall (g1 lenD) (dCons (dVar 1) dNil)))) (retF (dC (.bl false))) .nx) (seqF (forF (dIts rng1 (dCons (dCall (g1 lenD) (dCons (dVar 1) dNil)) dNil)) (tgN 2) (Lp_l_same_1 Fself)) (retF (dC (.bl true))))) .nx) (retF (dC (.bl false))))))))))
def F_l_same : Nat → List D → Res D
  | 0 => fun _ => .bad
  | n + 1 => runF 3 false (Fb_l_same (F_l_same n))
def Lp_l_block_1 : Rho → SR := (setF 3 (dOp addD (dVar 3) (dLst (dCons (dC (.int 4)) (dCons (dC (.int 3)) (dCons (dC (.int 2)) (dCons (dC (.int 6)) (dCons (dC (.int 9)) dNil))))))))
def Lp_l_block_2 : Rho → SR := (seqF (setF 7 (dTup (dCons (dC (.str (Sg [98, 108, 97, 110, 107]))) (dCons (dOp mulX (dOp addD (dOp ixD (dVar 5) (dOp addD (dOp mulX (dC (.int 5)) (dVar 4)) (dC (.int 6)))) (dC (.int 1))) (dVar 2)) dNil)))) (seqF (ifF (dT (dOp eqD (dOp ixD (dVar 5) (dOp addD (dOp mulX (dC (.int 5)) (dVar 4)) (dC (.int 5)))) (dC (.int 0)))) (setF 7 (dTup (dCons (dC (.str (Sg [106, 111, 105, 110, 116]))) (dCons (dOp mulX (dOp ixD (dVar 5) (dOp addD (dOp mulX (dC (.int 5)) (dVar 4)) (dC (.int 6)))) (dVar 2)) dNil)))) .nx) (seqF (ifF (dT (dOp eqD (dVar 4) (dOp subD (dVar 1) (dC (.int 1))))) (setF 7 (dTup (dCons (dC (.str (Sg [101, 110, 100]))) dNil))) .nx) (seqF (setF 8 (dTup dNil)) (seqF (ifF (dT (dOp eqD (dOp ixD (dVar 5) (dOp addD (dOp mulX (dC (.int 5)) (dVar 4)) (dC (.int 7)))) (dC (.int 0)))) (setF 8 (dTup (dCons (dVar 2) dNil))) .nx) (seqF (setF 9 (dTup dNil)) (seqF (ifF (dT (dOp eqD (dOp ixD (dVar 5) (dOp addD (dOp mulX (dC (.int 5)) (dVar 4)) (dC (.int 8)))) (dC (.int 0)))) (setF 9 (dTup (dCons (dOp mulX (dOp addD (dC (.int 1)) (dOp fdivD (dOp ixD (dVar 5) (dOp addD (dOp mulX (dC (.int 5)) (dVar 4)) (dC (.int 7)))) (dC (.int 3)))) (dVar 2)) dNil))) .nx) (appF 6 (dTup (dCons (dOp mulX (dOp addD (dOp ixD (dVar 5) (dOp addD (dOp mulX (dC (.int 5)) (dVar 4)) (dC (.int 4)))) (dC (.int 1))) (dVar 2)) (dCons (dVar 7) (dCons (dVar 8) (dCons (dVar 9) dNil)))))))))))))
def Fb_l_block : Rho → SR := (seqF (setF 3 (dLst (dCons (dC (.int 2)) (dCons (dC (.int 2)) (dCons (dC (.int 2)) (dCons (dC (.int 2)) dNil)))))) (seqF (forF (dIts rng1 (dCons (dVar 1) dNil)) (tgN 4) Lp_l_block_1) (seqF (setF 5 (dCall F_l_row (dCons (dVar 0) (dCons (dVar 3) dNil)))) (seqF (setF 6 (dLst dNil)) (seqF (forF (dIts rng1 (dCons (dVar 1) dNil)) (tgN 4) Lp_l_block_2) (retF (dTup (dCons (dOp mulX (dOp addD (dOp ixD (dVar 5) (dC (.int 0))) (dC (.int 1))) (dVar 2)) (dCons (dOp mulX (dOp ixD (dVar 5) (dC (.int 1))) (dVar 2)) (dCons (dOp mulX (dOp ixD (dVar 5) (dC (.int 2))) (dVar 2)) (dCons (dOp eqD (dOp ixD (dVar 5) (dC (.int 3))) (dC (.int 1))) (dCons (dCall (g1 tupleD) (dCons (dVar 6) dNil)) dNil))))))))))))
def F_l_block : List D → Res D := runF 10 false Fb_l_block
def Lp_l_few_1 : Rho → SR := (seqF (setF 6 (dOp ixD (dVar 5) (dC (.int 3)))) (seqF (ifF (dT (dOp gtD (dOp addD (dVar 1) (dCall (g1 lenD) (dCons (dVar 6) dNil))) (dC (.int 4)))) (setF 6 (dTup dNil)) .nx) (seqF (setF 1 (dOp addD (dVar 1) (dCall (g1 lenD) (dCons (dVar 6) dNil)))) (appF 4 (dTup (dCons (dOp ixD (dVar 5) (dC (.int 0))) (dCons (dOp ixD (dVar 5) (dC (.int 1))) (dCons (dOp ixD (dVar 5) (dC (.int 2))) (dCons (dVar 6) dNil)))))))))
def Lp_l_few_2 : Rho → SR := (seqF (setF 4 (dLst dNil)) (seqF (forF (dIt itemsT (dOp ixD (dVar 3) (dC (.int 4)))) (tgN 5) Lp_l_few_1) (appF 2 (dTup (dCons (dOp ixD (dVar 3) (dC (.int 0))) (dCons (dOp ixD (dVar 3) (dC (.int 1))) (dCons (dOp ixD (dVar 3) (dC (.int 2))) (dCons (dOp ixD (dVar 3) (dC (.int 3))) (dCons (dCall (g1 tupleD) (dCons (dVar 4) dNil)) dNil)))))))))
def Fb_l_few : Rho → SR := (seqF (setF 1 (dC (.int 0))) (seqF (setF 2 (dLst dNil)) (seqF (forF (dIt itemsL (dVar 0)) (tgN 3) Lp_l_few_2) (retF (dVar 2)))))
def F_l_few : List D → Res D := runF 7 true Fb_l_few
def Lp_l_flat_1 : Rho → SR := (appF 1 (dTup (dCons (dVar 4) (dCons (dVar 2) (dCons (dVar 3) (dCons (dOp addD (dVar 3) (dCall (g1 lenD) (dCons (dOp ixD (dOp ixD (dVar 0) (dVar 2)) (dC (.int 4))) dNil))) dNil))))))
def Lp_l_flat_2 : Rho → SR := (seqF (setF 3 (dCall (g1 lenD) (dCons (dVar 1) dNil))) (forF (dIt itemsT (dOp ixD (dOp ixD (dVar 0) (dVar 2)) (dC (.int 4)))) (tgN 4) Lp_l_flat_1))
def Fb_l_flat : Rho → SR := (seqF (setF 1 (dLst dNil)) (seqF (forF (dIts rng1 (dCons (dCall (g1 lenD) (dCons (dVar 0) dNil)) dNil)) (tgN 2) Lp_l_flat_2) (retF (dVar 1))))
def F_l_flat : List D → Res D := runF 5 false Fb_l_flat
def Lp_l_width_1 : Rho → SR := (seqF (setF 6 (dOp ixD (dOp ixD (dVar 1) (dVar 5)) (dC (.int 0)))) (seqF (setF 4 (dOp addD (dVar 4) (dOp ixD (dVar 6) (dC (.int 0))))) (ifF (dAnd (dT (dOp ltD (dVar 5) (dOp subD (dVar 3) (dC (.int 1))))) (dT (dOp eqD (dOp ixD (dOp ixD (dVar 6) (dC (.int 1))) (dC (.int 0))) (dC (.str (Sg [98, 108, 97, 110, 107])))))) (setF 4 (dOp addD (dVar 4) (dOp ixD (dOp ixD (dVar 6) (dC (.int 1))) (dC (.int 1))))) .nx)))
def Fb_l_width : Rho → SR := (seqF (setF 4 (dC (.int 0))) (seqF (forF (dIts rng2 (dCons (dVar 2) (dCons (dVar 3) dNil))) (tgN 5) Lp_l_width_1) (seqF (ifF (dT (dOp eqD (dOp ixD (dOp ixD (dOp ixD (dOp ixD (dVar 1) (dOp subD (dVar 3) (dC (.int 1)))) (dC (.int 0))) (dC (.int 1))) (dC (.int 0))) (dC (.str (Sg [106, 111, 105, 110, 116]))))) (setF 4 (dOp addD (dVar 4) (dOp ixD (dOp ixD (dOp ixD (dOp ixD (dVar 1) (dOp subD (dVar 3) (dC (.int 1)))) (dC (.int 0))) (dC (.int 1))) (dC (.int 1))))) .nx) (seqF (ifF (dT (dOp eqD (dVar 2) (dOp ixD (dOp ixD (dVar 1) (dVar 2)) (dC (.int 2))))) (setF 4 (dOp addD (dVar 4) (dOp ixD (dOp ixD (dVar 0) (dOp ixD (dOp ixD (dVar 1) (dVar 2)) (dC (.int 1)))) (dC (.int 1))))) .nx) (retF (dVar 4))))))
def F_l_width : List D → Res D := runF 7 false Fb_l_width
def Lp_l_moves_1 : Rho → SR := (seqF (ifF (dT (dOp ltD (dVar 13) (dVar 4))) (setF 12 (dOp addD (dVar 12) (dCall (g1 lenD) (dCons (dOp ixD (dOp ixD (dOp ixD (dVar 1) (dVar 13)) (dC (.int 0))) (dC (.int 3))) dNil)))) .nx) (setF 11 (dOp addD (dVar 11) (dCall (g1 listD) (dCons (dOp ixD (dOp ixD (dOp ixD (dVar 1) (dVar 13)) (dC (.int 0))) (dC (.int 3))) dNil)))))
def Lp_l_moves_2 : Rho → SR := (setF 16 (dOp addD (dVar 16) (dCall (g1 sumD) (dCons (dCall (g1 listD) (dCons (dOp ixD (dOp ixD (dOp ixD (dVar 1) (dVar 13)) (dC (.int 0))) (dC (.int 2))) dNil)) dNil))))
def Lp_l_moves_3 : Rho → SR := (seqF (setF 19 (dCall (g1 sumD) (dCons (dSl slD (dVar 11) (dPart (dVar 6)) (dPart (dOp addD (dVar 6) (dVar 18)))) dNil))) (ifF (dOr (dT (dOp eqD (dVar 18) (dC (.int 0)))) (dT (dOp leD (dOp addD (dVar 19) (dVar 16)) (dOp ixD (dVar 2) (dC (.int 1)))))) (appF 8 (dTup (dCons (dTup (dCons (dVar 15) (dCons (dVar 18) dNil))) (dCons (dTup (dCons (dVar 15) (dCons (dOp addD (dVar 19) (dVar 16)) (dCons (dOp addD (dVar 6) (dVar 18)) (dCons (dVar 17) dNil))))) dNil)))) .nx))
def Lp_l_moves_4 : Rho → SR := (seqF (ifF (dAnd (dT (dOp gtD (dVar 15) (dOp addD (dVar 4) (dC (.int 1))))) (dT (dOp gtD (dCall F_l_width (dCons (dVar 0) (dCons (dVar 1) (dCons (dVar 4) (dCons (dVar 15) dNil))))) (dOp ixD (dVar 2) (dC (.int 0)))))) .ct .nx) (seqF (setF 16 (dOp ixD (dVar 14) (dC (.int 0)))) (seqF (ifF (dT (dOp eqD (dVar 4) (dVar 9))) (setF 16 (dOp addD (dVar 16) (dOp ixD (dVar 14) (dC (.int 2))))) .nx) (seqF (forF (dIts rng2 (dCons (dVar 4) (dCons (dVar 15) dNil))) (tgN 13) Lp_l_moves_2) (seqF (setF 17 (dAndV (dOp eqD (dVar 4) (dVar 9)) (dOp ltD (dVar 15) (dVar 10)))) (seqF (ifF (dT (dOp eqD (dVar 4) (dC (.int 0)))) (seqF (appF 8 (dTup (dCons (dTup (dCons (dVar 15) (dCons (dC (.int 0)) dNil))) (dCons (dTup (dCons (dVar 15) (dCons (dVar 16) (dCons (dC (.int 0)) (dCons (dVar 17) dNil))))) dNil)))) .ct) .nx) (seqF (ifF (dT (dOp leD (dOp addD (dVar 5) (dVar 16)) (dOp ixD (dVar 2) (dC (.int 1))))) (appF 8 (dTup (dCons (dTup (dCons (dVar 15) (dCons (dC .non) dNil))) (dCons (dTup (dCons (dVar 15) (dCons (dOp addD (dVar 5) (dVar 16)) (dCons (dVar 6) (dCons (dVar 17) dNil))))) dNil)))) .nx) (forF (dIts rng1 (dCons (dOp addD (dOp subD (dVar 12) (dVar 6)) (dC (.int 1))) dNil)) (tgN 18) Lp_l_moves_3))))))))
def Fb_l_moves : Rho → SR := (seqF (asgF (tgT 4 (tgCons (tgN 4) (tgCons (tgN 5) (tgCons (tgN 6) (tgCons (tgN 7) tgNil))))) (dVar 3)) (seqF (setF 8 (dLst dNil)) (seqF (ifF (dT (dOp eqD (dVar 4) (dCall (g1 lenD) (dCons (dVar 1) dNil)))) (retF (dVar 8)) .nx) (seqF (parF 9 10 (dOp ixD (dOp ixD (dVar 1) (dVar 4)) (dC (.int 2))) (dOp ixD (dOp ixD (dVar 1) (dVar 4)) (dC (.int 3)))) (seqF (setF 11 (dLst dNil)) (seqF (setF 12 (dC (.int 0))) (seqF (forF (dIts rng1 (dCons (dCall (g1 lenD) (dCons (dVar 1) dNil)) dNil)) (tgN 13) Lp_l_moves_1) (seqF (setF 14 (dOp ixD (dVar 0) (dOp ixD (dOp ixD (dVar 1) (dVar 4)) (dC (.int 1))))) (seqF (forF (dIts rng2 (dCons (dOp addD (dVar 4) (dC (.int 1))) (dCons (dOp addD (dVar 10) (dC (.int 1))) dNil))) (tgN 15) Lp_l_moves_4) (retF (dVar 8)))))))))))
def F_l_moves : List D → Res D := runF 20 true Fb_l_moves
def Lp_l_walk_1 : Rho → SR := (seqF (setF 7 (dCall F_l_moves (dCons (dVar 0) (dCons (dVar 1) (dCons (dVar 2) (dCons (dVar 4) dNil)))))) (ifF (dT (dOp gtD (dCall (g1 lenD) (dCons (dVar 7) dNil)) (dC (.int 0)))) (seqF (asgF (tgT 2 (tgCons (tgN 8) (tgCons (tgN 9) tgNil))) (dOp ixD (dVar 7) (dOp modD (dCall (g1 intD) (dCons (dOp ixD (dVar 3) (dVar 6)) dNil)) (dCall (g1 lenD) (dCons (dVar 7) dNil))))) (seqF (appF 5 (dTup (dCons (dVar 4) (dCons (dVar 8) (dCons (dVar 9) dNil))))) (setF 4 (dVar 9)))) .nx))
def Fb_l_walk : Rho → SR := (seqF (parF 4 5 (dTup (dCons (dC (.int 0)) (dCons (dC (.int 0)) (dCons (dC (.int 0)) (dCons (dC (.bl false)) dNil))))) (dLst dNil)) (seqF (forF (dIts rng1 (dCons (dCall (g1 lenD) (dCons (dVar 1) dNil)) dNil)) (tgN 6) Lp_l_walk_1) (retF (dVar 5))))
def F_l_walk : List D → Res D := runF 10 true Fb_l_walk
def Fb_l_forbidden : Rho → SR := (seqF (parF3 7 8 9 (dOp ixD (dVar 4) (dC (.int 0))) (dOp ixD (dOp ixD (dVar 1) (dOp ixD (dVar 4) (dC (.int 0)))) (dC (.int 2))) (dOp ixD (dOp ixD (dVar 1) (dOp ixD (dVar 4) (dC (.int 0)))) (dC (.int 3)))) (seqF (setF 10 (dCall F_l_width (dCons (dVar 0) (dCons (dVar 1) (dCons (dVar 7) (dCons (dOp ixD (dVar 5) (dC (.int 0))) dNil)))))) (seqF (ifF (dT (dOp eqD (dOp ixD (dVar 3) (dC (.int 0))) (dC (.str (Sg [108, 111, 111, 115, 101]))))) (retF (dAndV (dOp neD (dOp ixD (dVar 5) (dC (.int 0))) (dVar 9)) (dOp gtD (dOp subD (dOp ixD (dVar 2) (dC (.int 0))) (dVar 10)) (dOp ixD (dVar 3) (dC (.int 1)))))) .nx) (seqF (ifF (dT (dOp eqD (dOp ixD (dVar 3) (dC (.int 0))) (dC (.str (Sg [102, 105, 116, 115]))))) (retF (dOrV (dOp gtD (dVar 10) (dOp ixD (dVar 2) (dC (.int 0)))) (dOp gtD (dOp ixD (dVar 6) (dC (.int 1))) (dOp ixD (dVar 2) (dC (.int 1)))))) .nx) (seqF (ifF (dOr (dT (dOp eqD (dVar 7) (dC (.int 0)))) (dT (dOp (isD false) (dOp ixD (dVar 5) (dC (.int 1))) (dC .non)))) (retF (dC (.bl false))) .nx) (seqF (ifF (dT (dOp eqD (dOp ixD (dVar 3) (dC (.int 0))) (dC (.str (Sg [107, 101, 101, 112]))))) (retF (dAndV (dOp eqD (dVar 7) (dVar 8)) (dOp ixD (dOp ixD (dVar 0) (dOp ixD (dOp ixD (dVar 1) (dOp subD (dVar 7) (dC (.int 1)))) (dC (.int 1)))) (dC (.int 3))))) .nx) (seqF (ifF (dT (dOp eqD (dOp ixD (dVar 3) (dC (.int 0))) (dC (.str (Sg [111, 114, 112, 104, 97, 110]))))) (retF (dOp ixD (dVar 4) (dC (.int 3)))) .nx) (seqF (ifF (dT (dOp eqD (dOp ixD (dVar 3) (dC (.int 0))) (dC (.str (Sg [119, 105, 100, 111, 119]))))) (retF (dAndV (dOp neD (dVar 7) (dVar 8)) (dOp eqD (dOp ixD (dVar 5) (dC (.int 0))) (dVar 9)))) .nx) (retF (dOp gtD (dOp subD (dOp ixD (dVar 2) (dC (.int 1))) (dOp ixD (dVar 4) (dC (.int 1)))) (dOp ixD (dVar 3) (dC (.int 1)))))))))))))
def F_l_forbidden : List D → Res D := runF 11 false Fb_l_forbidden
def Lp_l_first_1 : Rho → SR := (ifF (dT (dCall F_l_forbidden (dCons (dVar 0) (dCons (dVar 1) (dCons (dVar 2) (dCons (dVar 3) (dCons (dOp ixD (dOp ixD (dVar 4) (dVar 5)) (dC (.int 0))) (dCons (dOp ixD (dOp ixD (dVar 4) (dVar 5)) (dC (.int 1))) (dCons (dOp ixD (dOp ixD (dVar 4) (dVar 5)) (dC (.int 2))) dNil))))))))) (retF (dVar 5)) .nx)
def Fb_l_first : Rho → SR := (seqF (forF (dIts rng1 (dCons (dCall (g1 lenD) (dCons (dVar 4) dNil)) dNil)) (tgN 5) Lp_l_first_1) (retF (dC .non)))
def F_l_first : List D → Res D := runF 6 false Fb_l_first
def Fb_l_refused : Rho → SR := (seqF (tryF isM_BadLaying 5 (dropF (dCall F_broken_at (dCons (dVar 0) (dCons (dVar 1) (dCons (dVar 2) (dCons (dVar 3) dNil)))))) (retF (dAndV (dIsX isM_LaidError 5) (dAndV (dCall FH_l_number (dCons (dXf 5 "step") dNil)) (dOp eqD (dXf 5 "step") (dVar 4)))))) (retF (dC (.bl false))))
def F_l_refused : List D → Res D := runF 6 false Fb_l_refused
def Fb_l_spoilt : Rho → SR := (seqF (ifF (dT (dOp eqD (dVar 2) (dC (.int 0)))) (retF (dTup (dCons (dOp addD (dOp addD (dSl slD (dVar 0) dNoP (dPart (dVar 3))) (dTup (dCons (dTup (dCons (dC (.int 0)) (dCons (dC .non) dNil))) dNil))) (dSl slD (dVar 0) (dPart (dOp addD (dVar 3) (dC (.int 1)))) dNoP)) (dCons (dVar 3) dNil)))) .nx) (seqF (ifF (dT (dOp eqD (dVar 2) (dC (.int 1)))) (retF (dTup (dCons (dOp addD (dOp addD (dSl slD (dVar 0) dNoP (dPart (dVar 3))) (dTup (dCons (dTup (dCons (dOp ixD (dOp ixD (dVar 0) (dVar 3)) (dC (.int 0))) (dCons (dC (.int 9)) dNil))) dNil))) (dSl slD (dVar 0) (dPart (dOp addD (dVar 3) (dC (.int 1)))) dNoP)) (dCons (dVar 3) dNil)))) .nx) (seqF (ifF (dT (dOp eqD (dVar 2) (dC (.int 2)))) (retF (dTup (dCons (dOp addD (dVar 0) (dTup (dCons (dTup (dCons (dVar 1) (dCons (dC .non) dNil))) dNil))) (dCons (dCall (g1 lenD) (dCons (dVar 0) dNil)) dNil)))) .nx) (retF (dTup (dCons (dOp addD (dTup (dCons (dTup (dCons (dOp ixD (dOp ixD (dVar 0) (dC (.int 0))) (dC (.int 0))) (dCons (dC .non) dNil))) dNil)) (dSl slD (dVar 0) (dPart (dC (.int 1))) dNoP)) (dCons (dC (.int 0)) dNil)))))))
def F_l_spoilt : List D → Res D := runF 4 false Fb_l_spoilt
def Fb_l_book : Rho → SR := (retF (dMakeKD F_Book_init (dCons (dOp ixD (dVar 0) (dC (.int 0))) (dCons (dOp ixD (dVar 0) (dC (.int 1))) dNil)) (dCons (dOp ixD (dVar 0) (dC (.int 2))) (dCons (dOp ixD (dVar 0) (dC (.int 3))) (dCons (dOp ixD (dVar 0) (dC (.int 4))) (dCons (dOp ixD (dVar 0) (dC (.int 5))) (dCons (dOp ixD (dVar 0) (dC (.int 6))) (dCons (dOp ixD (dVar 0) (dC (.int 7))) dNil)))))) [.int 1, .int 1, .bl false]))
def F_l_book : List D → Res D := runF 1 false Fb_l_book
def Lp_law_1 : Rho → SR := (seqF (setF 14 (dCall F_l_first (dCons (dVar 3) (dCons (dVar 4) (dCons (dVar 6) (dCons (dVar 13) (dCons (dVar 8) dNil))))))) (seqF (ifF (dNot (dT (dCall (F_l_same 8) (dCons (dCall F_broken_at (dCons (dVar 11) (dCons (dVar 7) (dCons (dVar 9) (dCons (dVar 13) dNil))))) (dCons (dVar 14) dNil))))) (retF (dC (.bl false))) .nx) (ifF (dT (dOp (isD true) (dCall F_broken_at (dCons (fun _ => F_Galley_init [.kt []]) (dCons (dVar 7) (dCons (dTup dNil) (dCons (dVar 13) dNil))))) (dC .non))) (retF (dC (.bl false))) .nx)))
def Fb_law : Rho → SR := (seqF (setF 1 (dCall F_l_row (dCons (dCall F_l_cell (dCons (dVar 0) (dCons (dC (.int 0)) dNil))) (dCons (dLst (dCons (dC (.int 2)) (dCons (dC (.int 4)) (dCons (dC (.int 4)) (dCons (dC (.int 4)) (dCons (dC (.int 4)) (dCons (dC (.int 4)) (dCons (dC (.int 6)) (dCons (dC (.int 4)) (dCons (dC (.int 60)) dNil)))))))))) dNil)))) (seqF (setF 2 (dOp ixD (dLst (dCons (dC (.int 150)) (dCons (dC (.int 1)) (dCons (dC (.int 1)) (dCons (dC (.int 1)) dNil))))) (dOp ixD (dVar 1) (dC (.int 7))))) (seqF (setF 3 (dLst (dCons (dCall F_l_block (dCons (dCall F_l_cell (dCons (dVar 0) (dCons (dC (.int 1)) dNil))) (dCons (dOp addD (dOp ixD (dVar 1) (dC (.int 1))) (dC (.int 1))) (dCons (dVar 2) dNil)))) dNil))) (seqF (ifF (dT (dOp eqD (dOp ixD (dVar 1) (dC (.int 0))) (dC (.int 1)))) (appF 3 (dCall F_l_block (dCons (dCall F_l_cell (dCons (dVar 0) (dCons (dC (.int 2)) dNil))) (dCons (dOp addD (dOp ixD (dVar 1) (dC (.int 2))) (dC (.int 1))) (dCons (dVar 2) dNil))))) .nx) (seqF (setF 3 (dCall F_l_few (dCons (dVar 3) dNil))) (seqF (setF 4 (dCall F_l_flat (dCons (dVar 3) dNil))) (seqF (setF 5 (dCall F_l_row (dCons (dCall F_l_cell (dCons (dVar 0) (dCons (dC (.int 3)) dNil))) (dCons (dLst (dCons (dC (.int 5)) (dCons (dC (.int 5)) (dCons (dC (.int 4)) (dCons (dC (.int 3)) (dCons (dC (.int 6)) (dCons (dC (.int 6)) (dCons (dC (.int 6)) (dCons (dC (.int 4)) dNil))))))))) dNil)))) (seqF (setF 6 (dLst (dCons (dOp mulX (dOp addD (dOp ixD (dVar 5) (dC (.int 0))) (dC (.int 2))) (dVar 2)) (dCons (dOp mulX (dOp addD (dOp ixD (dVar 5) (dC (.int 1))) (dC (.int 1))) (dVar 2)) (dCons (dOp ixD (dVar 5) (dC (.int 2))) (dCons (dOp ixD (dLst (dCons (dC (.int 1)) (dCons (dC (.int 5)) (dCons (dC (.int 100)) dNil)))) (dOp ixD (dVar 5) (dC (.int 3)))) (dCons (dOp ixD (dVar 5) (dC (.int 4))) (dCons (dOp ixD (dVar 5) (dC (.int 5))) (dCons (dOp ixD (dVar 5) (dC (.int 6))) (dCons (dOp ixD (dVar 5) (dC (.int 7))) dNil)))))))))) (seqF (setF 7 (dCall F_l_book (dCons (dVar 6) dNil))) (seqF (setF 8 (dCall F_l_walk (dCons (dVar 3) (dCons (dVar 4) (dCons (dVar 6) (dCons (dCall F_l_row (dCons (dCall F_l_cell (dCons (dVar 0) (dCons (dC (.int 4)) dNil))) (dCons (dOp mulX (dLst (dCons (dC (.int 60)) dNil)) (dC (.int 8))) dNil))) dNil)))))) (seqF (setF 9 (dCall (g1 tupleD) (dCons (dLc (dIt itemsL (dVar 8)) (tgN 10) dYes (dOp ixD (dVar 10) (dC (.int 1))) [10]) dNil))) (seqF (setF 11 (dCall F_Galley_init (dCons (dCall (g1 listD) (dCons (dVar 3) dNil)) dNil))) (seqF (setF 12 (dLst (dCons (dTup (dCons (dC (.str (Sg [108, 111, 111, 115, 101]))) (dCons (dOp mulX (dOp ixD (dVar 1) (dC (.int 3))) (dVar 2)) dNil))) (dCons (dTup (dCons (dC (.str (Sg [107, 101, 101, 112]))) dNil)) (dCons (dTup (dCons (dC (.str (Sg [111, 114, 112, 104, 97, 110]))) dNil)) (dCons (dTup (dCons (dC (.str (Sg [119, 105, 100, 111, 119]))) dNil)) (dCons (dTup (dCons (dC (.str (Sg [101, 109, 112, 116, 121]))) (dCons (dOp mulX (dOp ixD (dVar 1) (dC (.int 4))) (dVar 2)) dNil))) (dCons (dTup (dCons (dC (.str (Sg [102, 105, 116, 115]))) dNil)) dNil)))))))) (seqF (forF (dIt itemsL (dOp addD (dVar 12) (dSl slD (dVar 12) dNoP (dPart (dC (.int 1)))))) (tgN 13) Lp_law_1) (seqF (setF 13 (dOp ixD (dVar 12) (dOp ixD (dVar 1) (dC (.int 6))))) (seqF (ifF (dNot (dT (dCall F_l_refused (dCons (dVar 11) (dCons (dVar 7) (dCons (dSl slD (dVar 9) dNoP (dPart (dUn negD (dC (.int 1))))) (dCons (dVar 13) (dCons (dOp subD (dCall (g1 lenD) (dCons (dVar 9) dNil)) (dC (.int 1))) dNil)))))))) (retF (dC (.bl false))) .nx) (seqF (asgF (tgT 2 (tgCons (tgN 15) (tgCons (tgN 16) tgNil))) (dCall F_l_spoilt (dCons (dVar 9) (dCons (dCall (g1 lenD) (dCons (dVar 4) dNil)) (dCons (dOp ixD (dVar 1) (dC (.int 5))) (dCons (dOp modD (dCall (g1 intD) (dCons (dOp ixD (dVar 1) (dC (.int 8))) dNil)) (dCall (g1 lenD) (dCons (dVar 9) dNil))) dNil)))))) (seqF (ifF (dNot (dT (dCall F_l_refused (dCons (dVar 11) (dCons (dVar 7) (dCons (dVar 15) (dCons (dVar 13) (dCons (dVar 16) dNil)))))))) (retF (dC (.bl false))) .nx) (seqF (setF 14 (dCall F_l_first (dCons (dVar 3) (dCons (dVar 4) (dCons (dVar 6) (dCons (dVar 13) (dCons (dVar 8) dNil))))))) (retF (dAndV (dCall (F_l_same 8) (dCons (dCall F_broken_at (dCons (dVar 11) (dCons (dVar 7) (dCons (dVar 9) (dCons (dVar 13) dNil))))) (dCons (dVar 14) dNil))) (dCall (F_l_same 8) (dCons (dCall (g1 (listO "Galley" "blocks" "all_pieces")) (dCons (dVar 11) dNil)) (dCons (dVar 3) dNil))))))))))))))))))))))))
def F_law : List D → Res D := runF 17 false Fb_law
end
end Lk
end S_P_data
section S_M
set_option Elab.async false
set_option linter.all false
set_option maxHeartbeats 2000000
set_option maxRecDepth 100000
namespace Lk
open PySem L2 Dx
local macro_rules
  | `(tactic| array_get_dec) => `(tactic| repeat (first
    | ((with_reducible apply Dx.rs_asSJ); · (first | omega | (simp only [List.length_append, List.length_cons, List.length_nil, List.length_map, List.length_range, List.length_replicate, List.length_reverse, List.length_take, List.length_drop]; omega)))
    | with_reducible refine Dx.rs_c ?_
    | with_reducible refine Dx.rs_op ?_
    | with_reducible refine Dx.rs_str ?_
    | with_reducible refine Dx.rs_asS ?_
    | with_reducible refine Dx.rs_un ?_
    | with_reducible refine Dx.rs_nil ?_
    | with_reducible refine Dx.rs_cons ?_
    | with_reducible refine Dx.rs_call ?_
    | with_reducible refine Dx.rs_T ?_
    | with_reducible refine Dx.rs_asB ?_
    | with_reducible refine Dx.rs_asI ?_
    | with_reducible refine Dx.rs_not ?_
    | with_reducible refine Dx.rs_and ?_
    | with_reducible refine Dx.rs_or ?_
    | with_reducible refine Dx.rs_andV ?_
    | with_reducible refine Dx.rs_orV ?_
    | with_reducible refine Dx.rs_notV ?_
    | with_reducible refine Dx.rs_chain ?_
    | with_reducible refine Dx.rs_noP ?_
    | with_reducible refine Dx.rs_part ?_
    | with_reducible refine Dx.rs_sl ?_
    | with_reducible refine Dx.rs_it ?_
    | with_reducible refine Dx.rs_its ?_
    | with_reducible refine Dx.rs_yes ?_
    | with_reducible refine Dx.rs_meth ?_
    | with_reducible refine Dx.rs_tru ?_
    | with_reducible refine Dx.rs_truB ?_
    | with_reducible refine Dx.rs_truI ?_
    | with_reducible refine Dx.rs_truL ?_
    | with_reducible refine Dx.rs_truT ?_
    | with_reducible refine Dx.rs_truN ?_
    | with_reducible refine Dx.rs_ifx ?_
    | with_reducible refine Dx.rs_add ?_
    | with_reducible refine Dx.rs_sub ?_
    | with_reducible refine Dx.rs_neg ?_
    | with_reducible refine Dx.rs_eqI ?_
    | with_reducible refine Dx.rs_neI ?_
    | with_reducible refine Dx.rs_eqS ?_
    | with_reducible refine Dx.rs_neS ?_
    | with_reducible refine Dx.rs_eqB ?_
    | with_reducible refine Dx.rs_neB ?_
    | with_reducible refine Dx.rs_lt ?_
    | with_reducible refine Dx.rs_le ?_
    | with_reducible refine Dx.rs_gt ?_
    | with_reducible refine Dx.rs_ge ?_
    | with_reducible refine Dx.rs_is ?_
    | with_reducible refine Dx.rs_isn ?_
    | with_reducible refine Dx.rs_inS ?_
    | with_reducible refine Dx.rs_ninS ?_
    | with_reducible refine Dx.rs_lenL ?_
    | with_reducible refine Dx.rs_lenF ?_
    | with_reducible refine Dx.rs_lenT ?_
    | with_reducible refine Dx.rs_int ?_
    | with_reducible refine Dx.rs_intB ?_
    | with_reducible refine Dx.rs_abs ?_
    | with_reducible refine Dx.rs_listL ?_
    | with_reducible refine Dx.rs_listT ?_
    | with_reducible refine Dx.rs_tupL ?_
    | with_reducible refine Dx.rs_tupT ?_
    | with_reducible refine Dx.rs_slL ?_
    | with_reducible refine Dx.rs_slO ?_
    | with_reducible refine Dx.rs_slT ?_
    | with_reducible refine Dx.rs_itsL ?_
    | with_reducible refine Dx.rs_itsT ?_
    | with_reducible refine Dx.rs_itsS ?_
    | with_reducible refine Dx.rs_enL ?_
    | with_reducible refine Dx.rs_enT ?_
    | with_reducible refine Dx.rs_enS ?_
    | with_reducible refine Dx.rs_ints ?_
    | with_reducible refine Dx.rs_sortI ?_
    | with_reducible refine Dx.rs_sum ?_
    | with_reducible refine Dx.rs_g2 ?_
    | with_reducible refine Dx.rs_all ?_
    | with_reducible refine Dx.rs_disp ?_
    | with_reducible refine Dx.rs_pnil ?_
    | with_reducible refine Dx.rs_pcons ?_
    | with_reducible refine Dx.rs_jnil ?_
    | with_reducible refine Dx.rs_jcons ?_
    | with_reducible refine Dx.rs_dJoin ?_
    | with_reducible refine Dx.rs_ord ?_
    | with_reducible refine Dx.rs_leS ?_
    | with_reducible refine Dx.rs_inKI ?_
    | with_reducible refine Dx.rs_inI ?_
    | with_reducible refine Dx.rs_ninI ?_
    | with_reducible refine Dx.rs_inTk ?_
    | with_reducible refine Dx.rs_getET ?_
    | with_reducible refine Dx.rs_dD0 ?_
    | with_reducible refine Dx.rs_listTk ?_
    | with_reducible refine Dx.rs_lenTk ?_
    | with_reducible refine Dx.rs_itTk ?_
    | with_reducible refine Dx.rs_end ?_
    | with_reducible refine Dx.rs_start ?_
    | with_reducible refine Dx.rs_star ?_
    | with_reducible refine Dx.rs_itemsL ?_
    | with_reducible refine Dx.rs_itemsT ?_
    | with_reducible refine Dx.rs_zipL ?_
    | with_reducible refine Dx.rs_zipS ?_
    | with_reducible refine Dx.rs_isi_non_bool ?_
    | with_reducible refine Dx.rs_isi_non_int ?_
    | with_reducible refine Dx.rs_isi_non_str ?_
    | with_reducible refine Dx.rs_isi_non_tuple ?_
    | with_reducible refine Dx.rs_isi_non_list ?_
    | with_reducible refine Dx.rs_isi_bl_bool ?_
    | with_reducible refine Dx.rs_isi_bl_int ?_
    | with_reducible refine Dx.rs_isi_bl_str ?_
    | with_reducible refine Dx.rs_isi_bl_tuple ?_
    | with_reducible refine Dx.rs_isi_bl_list ?_
    | with_reducible refine Dx.rs_isi_int_bool ?_
    | with_reducible refine Dx.rs_isi_int_int ?_
    | with_reducible refine Dx.rs_isi_int_str ?_
    | with_reducible refine Dx.rs_isi_int_tuple ?_
    | with_reducible refine Dx.rs_isi_int_list ?_
    | with_reducible refine Dx.rs_isi_str_bool ?_
    | with_reducible refine Dx.rs_isi_str_int ?_
    | with_reducible refine Dx.rs_isi_str_str ?_
    | with_reducible refine Dx.rs_isi_str_tuple ?_
    | with_reducible refine Dx.rs_isi_str_list ?_
    | with_reducible refine Dx.rs_isi_lst_bool ?_
    | with_reducible refine Dx.rs_isi_lst_int ?_
    | with_reducible refine Dx.rs_isi_lst_str ?_
    | with_reducible refine Dx.rs_isi_lst_tuple ?_
    | with_reducible refine Dx.rs_isi_lst_list ?_
    | with_reducible refine Dx.rs_isi_tup_bool ?_
    | with_reducible refine Dx.rs_isi_tup_int ?_
    | with_reducible refine Dx.rs_isi_tup_str ?_
    | with_reducible refine Dx.rs_isi_tup_tuple ?_
    | with_reducible refine Dx.rs_isi_tup_list ?_
    | with_reducible refine Dx.ss_nx ?_
    | with_reducible refine Dx.ss_bk ?_
    | with_reducible refine Dx.ss_ct ?_
    | with_reducible refine Dx.ss_seq ?_
    | with_reducible refine Dx.ss_set ?_
    | with_reducible refine Dx.ss_ret ?_
    | with_reducible refine Dx.ss_drop ?_
    | with_reducible refine Dx.ss_if ?_
    | with_reducible refine Dx.ss_par ?_
    | with_reducible refine Dx.ss_par3 ?_
    | with_reducible refine Dx.ss_aug ?_
    | ((with_reducible apply Dx.rs_var); · (rfl))
    | ((with_reducible apply Dx.rs_ixL); · (first | rfl | assumption))
    | ((with_reducible apply Dx.rs_ixF); · (first | rfl | assumption))
    | ((with_reducible apply Dx.rs_ixT); · (first | rfl | assumption))
    | ((with_reducible apply Dx.rs_fld); · (rfl))
    | ((with_reducible apply Dx.rs_isObj); · (decide))
    | ((with_reducible apply Dx.rs_mod); · (omega))
    | ((with_reducible apply Dx.rs_fdiv); · (omega))
    | ((with_reducible apply Dx.rs_addS); · ((first | exact Nat.le_of_ble_eq_true rfl | assumption | (refine Nat.le_trans (m := 100000) ?_ Dx.sz5; first | omega | (simp only [List.length_append, List.length_cons, List.length_nil, List.length_map, List.length_range, List.length_replicate, List.length_reverse, List.length_take, List.length_drop]; omega)))))
    | ((with_reducible apply Dx.rs_addT); · ((first | exact Nat.le_of_ble_eq_true rfl | assumption | (refine Nat.le_trans (m := 100000) ?_ Dx.sz5; first | omega | (simp only [List.length_append, List.length_cons, List.length_nil, List.length_map, List.length_range, List.length_replicate, List.length_reverse, List.length_take, List.length_drop]; omega)))))
    | ((with_reducible apply Dx.rs_addLL); · ((first | exact Nat.le_of_ble_eq_true rfl | assumption | (refine Nat.le_trans (m := 100000) ?_ Dx.sz5; first | omega | (simp only [List.length_append, List.length_cons, List.length_nil, List.length_map, List.length_range, List.length_replicate, List.length_reverse, List.length_take, List.length_drop]; omega)))))
    | ((with_reducible apply Dx.rs_addLO); · ((first | exact Nat.le_of_ble_eq_true rfl | assumption | (refine Nat.le_trans (m := 100000) ?_ Dx.sz5; first | omega | (simp only [List.length_append, List.length_cons, List.length_nil, List.length_map, List.length_range, List.length_replicate, List.length_reverse, List.length_take, List.length_drop]; omega)))))
    | ((with_reducible apply Dx.rs_lenS); · ((first | exact Nat.le_of_ble_eq_true rfl | assumption | (refine Nat.le_trans (m := 100000) ?_ Dx.sz5; first | omega | (simp only [List.length_append, List.length_cons, List.length_nil, List.length_map, List.length_range, List.length_replicate, List.length_reverse, List.length_take, List.length_drop]; omega)))))
    | ((with_reducible apply Dx.rs_slS); · ((first | exact Nat.le_of_ble_eq_true rfl | assumption | (refine Nat.le_trans (m := 100000) ?_ Dx.sz5; first | omega | (simp only [List.length_append, List.length_cons, List.length_nil, List.length_map, List.length_range, List.length_replicate, List.length_reverse, List.length_take, List.length_drop]; omega)))))
    | ((with_reducible apply Dx.rs_mul); · ((first | exact Or.inl (Dx.small_of (by omega) (by omega)) | exact Or.inr (Dx.small_of (by omega) (by omega)))))
    | ((with_reducible apply Dx.rs_strI); · (omega))
    | ((with_reducible apply Dx.rs_fmtI); · (omega))
    | ((with_reducible apply Dx.rs_fmtS); · ((first | exact Nat.le_of_ble_eq_true rfl | assumption | (refine Nat.le_trans (m := 100000) ?_ Dx.sz5; first | omega | (simp only [List.length_append, List.length_cons, List.length_nil, List.length_map, List.length_range, List.length_replicate, List.length_reverse, List.length_take, List.length_drop]; omega)))))
    | ((with_reducible apply Dx.rs_split); · (refine And.intro (by decide) ?_; (first | exact Nat.le_of_ble_eq_true rfl | assumption | (refine Nat.le_trans (m := 100000) ?_ Dx.sz5; first | omega | (simp only [List.length_append, List.length_cons, List.length_nil, List.length_map, List.length_range, List.length_replicate, List.length_reverse, List.length_take, List.length_drop]; omega)))))
    | ((with_reducible apply Dx.ss_app); · (rfl))
    | (with_reducible refine Dx.rs_tup ?_)
    | (with_reducible refine Dx.rs_lst ?_)
    | ((with_reducible refine And.intro (a := List.length _ ≤ PySem.sizeLine) ?_ ?_); · ((first | exact Nat.le_of_ble_eq_true rfl | assumption | (refine Nat.le_trans (m := 100000) ?_ Dx.sz5; first | omega | (simp only [List.length_append, List.length_cons, List.length_nil, List.length_map, List.length_range, List.length_replicate, List.length_reverse, List.length_take, List.length_drop]; omega)))))
    | ((with_reducible refine And.intro (a := List.length _ < PySem.sizeLine) ?_ ?_); · (first | exact Nat.le_of_ble_eq_true rfl | (refine Nat.lt_of_lt_of_le (m := 100000) ?_ Dx.sz5; first | omega | (simp only [List.length_append, List.length_cons, List.length_nil, List.length_map, List.length_range, List.length_replicate, List.length_reverse, List.length_take, List.length_drop]; omega))))))
local macro_rules
  | `(tactic| array_mem_dec) => `(tactic| repeat (first
    | with_reducible refine Dx.ss_ifo ?_
    | with_reducible refine Dx.ss_ifa ?_
    | with_reducible refine Dx.rs_andc ?_
    | with_reducible refine Dx.rs_orc ?_
    | with_reducible refine Dx.rs_andVc ?_
    | with_reducible refine Dx.rs_orVc ?_
    | ((with_reducible apply Dx.rs_asSJ); · (first | omega | (simp only [List.length_append, List.length_cons, List.length_nil, List.length_map, List.length_range, List.length_replicate, List.length_reverse, List.length_take, List.length_drop]; omega)))
    | with_reducible refine Dx.rs_c ?_
    | with_reducible refine Dx.rs_op ?_
    | with_reducible refine Dx.rs_str ?_
    | with_reducible refine Dx.rs_asS ?_
    | with_reducible refine Dx.rs_un ?_
    | with_reducible refine Dx.rs_nil ?_
    | with_reducible refine Dx.rs_cons ?_
    | with_reducible refine Dx.rs_call ?_
    | with_reducible refine Dx.rs_T ?_
    | with_reducible refine Dx.rs_asB ?_
    | with_reducible refine Dx.rs_asI ?_
    | with_reducible refine Dx.rs_not ?_
    | with_reducible refine Dx.rs_notV ?_
    | with_reducible refine Dx.rs_chain ?_
    | with_reducible refine Dx.rs_noP ?_
    | with_reducible refine Dx.rs_part ?_
    | with_reducible refine Dx.rs_sl ?_
    | with_reducible refine Dx.rs_it ?_
    | with_reducible refine Dx.rs_its ?_
    | with_reducible refine Dx.rs_yes ?_
    | with_reducible refine Dx.rs_meth ?_
    | with_reducible refine Dx.rs_tru ?_
    | with_reducible refine Dx.rs_truB ?_
    | with_reducible refine Dx.rs_truI ?_
    | with_reducible refine Dx.rs_truL ?_
    | with_reducible refine Dx.rs_truT ?_
    | with_reducible refine Dx.rs_truN ?_
    | with_reducible refine Dx.rs_add ?_
    | with_reducible refine Dx.rs_sub ?_
    | with_reducible refine Dx.rs_neg ?_
    | with_reducible refine Dx.rs_eqI ?_
    | with_reducible refine Dx.rs_neI ?_
    | with_reducible refine Dx.rs_eqS ?_
    | with_reducible refine Dx.rs_neS ?_
    | with_reducible refine Dx.rs_eqB ?_
    | with_reducible refine Dx.rs_neB ?_
    | with_reducible refine Dx.rs_lt ?_
    | with_reducible refine Dx.rs_le ?_
    | with_reducible refine Dx.rs_gt ?_
    | with_reducible refine Dx.rs_ge ?_
    | with_reducible refine Dx.rs_is ?_
    | with_reducible refine Dx.rs_isn ?_
    | with_reducible refine Dx.rs_inS ?_
    | with_reducible refine Dx.rs_ninS ?_
    | with_reducible refine Dx.rs_lenL ?_
    | with_reducible refine Dx.rs_lenF ?_
    | with_reducible refine Dx.rs_lenT ?_
    | with_reducible refine Dx.rs_int ?_
    | with_reducible refine Dx.rs_intB ?_
    | with_reducible refine Dx.rs_abs ?_
    | with_reducible refine Dx.rs_listL ?_
    | with_reducible refine Dx.rs_listT ?_
    | with_reducible refine Dx.rs_tupL ?_
    | with_reducible refine Dx.rs_tupT ?_
    | with_reducible refine Dx.rs_slL ?_
    | with_reducible refine Dx.rs_slO ?_
    | with_reducible refine Dx.rs_slT ?_
    | with_reducible refine Dx.rs_itsL ?_
    | with_reducible refine Dx.rs_itsT ?_
    | with_reducible refine Dx.rs_itsS ?_
    | with_reducible refine Dx.rs_enL ?_
    | with_reducible refine Dx.rs_enT ?_
    | with_reducible refine Dx.rs_enS ?_
    | with_reducible refine Dx.rs_ints ?_
    | with_reducible refine Dx.rs_sortI ?_
    | with_reducible refine Dx.rs_sum ?_
    | with_reducible refine Dx.rs_g2 ?_
    | with_reducible refine Dx.rs_all ?_
    | with_reducible refine Dx.rs_disp ?_
    | with_reducible refine Dx.rs_pnil ?_
    | with_reducible refine Dx.rs_pcons ?_
    | with_reducible refine Dx.rs_jnil ?_
    | with_reducible refine Dx.rs_jcons ?_
    | with_reducible refine Dx.rs_dJoin ?_
    | with_reducible refine Dx.rs_ord ?_
    | with_reducible refine Dx.rs_leS ?_
    | with_reducible refine Dx.rs_inKI ?_
    | with_reducible refine Dx.rs_inI ?_
    | with_reducible refine Dx.rs_ninI ?_
    | with_reducible refine Dx.rs_inTk ?_
    | with_reducible refine Dx.rs_getET ?_
    | with_reducible refine Dx.rs_dD0 ?_
    | with_reducible refine Dx.rs_listTk ?_
    | with_reducible refine Dx.rs_lenTk ?_
    | with_reducible refine Dx.rs_itTk ?_
    | with_reducible refine Dx.rs_end ?_
    | with_reducible refine Dx.rs_start ?_
    | with_reducible refine Dx.rs_star ?_
    | with_reducible refine Dx.rs_itemsL ?_
    | with_reducible refine Dx.rs_itemsT ?_
    | with_reducible refine Dx.rs_zipL ?_
    | with_reducible refine Dx.rs_zipS ?_
    | with_reducible refine Dx.rs_isi_non_bool ?_
    | with_reducible refine Dx.rs_isi_non_int ?_
    | with_reducible refine Dx.rs_isi_non_str ?_
    | with_reducible refine Dx.rs_isi_non_tuple ?_
    | with_reducible refine Dx.rs_isi_non_list ?_
    | with_reducible refine Dx.rs_isi_bl_bool ?_
    | with_reducible refine Dx.rs_isi_bl_int ?_
    | with_reducible refine Dx.rs_isi_bl_str ?_
    | with_reducible refine Dx.rs_isi_bl_tuple ?_
    | with_reducible refine Dx.rs_isi_bl_list ?_
    | with_reducible refine Dx.rs_isi_int_bool ?_
    | with_reducible refine Dx.rs_isi_int_int ?_
    | with_reducible refine Dx.rs_isi_int_str ?_
    | with_reducible refine Dx.rs_isi_int_tuple ?_
    | with_reducible refine Dx.rs_isi_int_list ?_
    | with_reducible refine Dx.rs_isi_str_bool ?_
    | with_reducible refine Dx.rs_isi_str_int ?_
    | with_reducible refine Dx.rs_isi_str_str ?_
    | with_reducible refine Dx.rs_isi_str_tuple ?_
    | with_reducible refine Dx.rs_isi_str_list ?_
    | with_reducible refine Dx.rs_isi_lst_bool ?_
    | with_reducible refine Dx.rs_isi_lst_int ?_
    | with_reducible refine Dx.rs_isi_lst_str ?_
    | with_reducible refine Dx.rs_isi_lst_tuple ?_
    | with_reducible refine Dx.rs_isi_lst_list ?_
    | with_reducible refine Dx.rs_isi_tup_bool ?_
    | with_reducible refine Dx.rs_isi_tup_int ?_
    | with_reducible refine Dx.rs_isi_tup_str ?_
    | with_reducible refine Dx.rs_isi_tup_tuple ?_
    | with_reducible refine Dx.rs_isi_tup_list ?_
    | with_reducible refine Dx.ss_nx ?_
    | with_reducible refine Dx.ss_bk ?_
    | with_reducible refine Dx.ss_ct ?_
    | with_reducible refine Dx.ss_seq ?_
    | with_reducible refine Dx.ss_set ?_
    | with_reducible refine Dx.ss_ret ?_
    | with_reducible refine Dx.ss_drop ?_
    | with_reducible refine Dx.ss_if ?_
    | with_reducible refine Dx.ss_par ?_
    | with_reducible refine Dx.ss_par3 ?_
    | with_reducible refine Dx.ss_aug ?_
    | ((with_reducible apply Dx.rs_var); · (rfl))
    | ((with_reducible apply Dx.rs_ixL); · (first | rfl | assumption))
    | ((with_reducible apply Dx.rs_ixF); · (first | rfl | assumption))
    | ((with_reducible apply Dx.rs_ixT); · (first | rfl | assumption))
    | ((with_reducible apply Dx.rs_fld); · (rfl))
    | ((with_reducible apply Dx.rs_isObj); · (decide))
    | ((with_reducible apply Dx.rs_mod); · (omega))
    | ((with_reducible apply Dx.rs_fdiv); · (omega))
    | ((with_reducible apply Dx.rs_addS); · ((first | exact Nat.le_of_ble_eq_true rfl | assumption | (refine Nat.le_trans (m := 100000) ?_ Dx.sz5; first | omega | (simp only [List.length_append, List.length_cons, List.length_nil, List.length_map, List.length_range, List.length_replicate, List.length_reverse, List.length_take, List.length_drop]; omega)))))
    | ((with_reducible apply Dx.rs_addT); · ((first | exact Nat.le_of_ble_eq_true rfl | assumption | (refine Nat.le_trans (m := 100000) ?_ Dx.sz5; first | omega | (simp only [List.length_append, List.length_cons, List.length_nil, List.length_map, List.length_range, List.length_replicate, List.length_reverse, List.length_take, List.length_drop]; omega)))))
    | ((with_reducible apply Dx.rs_addLL); · ((first | exact Nat.le_of_ble_eq_true rfl | assumption | (refine Nat.le_trans (m := 100000) ?_ Dx.sz5; first | omega | (simp only [List.length_append, List.length_cons, List.length_nil, List.length_map, List.length_range, List.length_replicate, List.length_reverse, List.length_take, List.length_drop]; omega)))))
    | ((with_reducible apply Dx.rs_addLO); · ((first | exact Nat.le_of_ble_eq_true rfl | assumption | (refine Nat.le_trans (m := 100000) ?_ Dx.sz5; first | omega | (simp only [List.length_append, List.length_cons, List.length_nil, List.length_map, List.length_range, List.length_replicate, List.length_reverse, List.length_take, List.length_drop]; omega)))))
    | ((with_reducible apply Dx.rs_lenS); · ((first | exact Nat.le_of_ble_eq_true rfl | assumption | (refine Nat.le_trans (m := 100000) ?_ Dx.sz5; first | omega | (simp only [List.length_append, List.length_cons, List.length_nil, List.length_map, List.length_range, List.length_replicate, List.length_reverse, List.length_take, List.length_drop]; omega)))))
    | ((with_reducible apply Dx.rs_slS); · ((first | exact Nat.le_of_ble_eq_true rfl | assumption | (refine Nat.le_trans (m := 100000) ?_ Dx.sz5; first | omega | (simp only [List.length_append, List.length_cons, List.length_nil, List.length_map, List.length_range, List.length_replicate, List.length_reverse, List.length_take, List.length_drop]; omega)))))
    | ((with_reducible apply Dx.rs_mul); · ((first | exact Or.inl (Dx.small_of (by omega) (by omega)) | exact Or.inr (Dx.small_of (by omega) (by omega)))))
    | ((with_reducible apply Dx.rs_strI); · (omega))
    | ((with_reducible apply Dx.rs_fmtI); · (omega))
    | ((with_reducible apply Dx.rs_fmtS); · ((first | exact Nat.le_of_ble_eq_true rfl | assumption | (refine Nat.le_trans (m := 100000) ?_ Dx.sz5; first | omega | (simp only [List.length_append, List.length_cons, List.length_nil, List.length_map, List.length_range, List.length_replicate, List.length_reverse, List.length_take, List.length_drop]; omega)))))
    | ((with_reducible apply Dx.rs_split); · (refine And.intro (by decide) ?_; (first | exact Nat.le_of_ble_eq_true rfl | assumption | (refine Nat.le_trans (m := 100000) ?_ Dx.sz5; first | omega | (simp only [List.length_append, List.length_cons, List.length_nil, List.length_map, List.length_range, List.length_replicate, List.length_reverse, List.length_take, List.length_drop]; omega)))))
    | ((with_reducible apply Dx.ss_app); · (rfl))
    | (with_reducible refine Dx.rs_tup ?_)
    | (with_reducible refine Dx.rs_lst ?_)
    | ((with_reducible refine And.intro (a := List.length _ ≤ PySem.sizeLine) ?_ ?_); · ((first | exact Nat.le_of_ble_eq_true rfl | assumption | (refine Nat.le_trans (m := 100000) ?_ Dx.sz5; first | omega | (simp only [List.length_append, List.length_cons, List.length_nil, List.length_map, List.length_range, List.length_replicate, List.length_reverse, List.length_take, List.length_drop]; omega)))))
    | ((with_reducible refine And.intro (a := List.length _ < PySem.sizeLine) ?_ ?_); · (first | exact Nat.le_of_ble_eq_true rfl | (refine Nat.lt_of_lt_of_le (m := 100000) ?_ Dx.sz5; first | omega | (simp only [List.length_append, List.length_cons, List.length_nil, List.length_map, List.length_range, List.length_replicate, List.length_reverse, List.length_take, List.length_drop]; omega))))
    | ((refine And.intro (fun h => absurd h ?_) (fun _ => ?_)); · (first | exact Bool.false_ne_true | (simp; done) | (simp; omega)))
    | ((refine And.intro (fun _ => ?_) (fun h => absurd h ?_)); rotate_left; · (first | exact (fun h => Bool.false_ne_true h.symm) | (simp; done) | (simp; omega)))))
local macro_rules
  | `(tactic| sizeOf_list_dec) => `(tactic| repeat (first
    | ((with_reducible apply Dx.rs_asSJ); · (first | omega | (simp only [List.length_append, List.length_cons, List.length_nil, List.length_map, List.length_range, List.length_replicate, List.length_reverse, List.length_take, List.length_drop]; omega)))
    | with_reducible refine Dx.rs_c ?_
    | with_reducible refine Dx.rs_op ?_
    | with_reducible refine Dx.rs_str ?_
    | with_reducible refine Dx.rs_asS ?_
    | with_reducible refine Dx.rs_un ?_
    | with_reducible refine Dx.rs_nil ?_
    | with_reducible refine Dx.rs_cons ?_
    | with_reducible refine Dx.rs_call ?_
    | with_reducible refine Dx.rs_T ?_
    | with_reducible refine Dx.rs_asB ?_
    | with_reducible refine Dx.rs_asI ?_
    | with_reducible refine Dx.rs_not ?_
    | with_reducible refine Dx.rs_and ?_
    | with_reducible refine Dx.rs_or ?_
    | with_reducible refine Dx.rs_andV ?_
    | with_reducible refine Dx.rs_orV ?_
    | with_reducible refine Dx.rs_notV ?_
    | with_reducible refine Dx.rs_chain ?_
    | with_reducible refine Dx.rs_noP ?_
    | with_reducible refine Dx.rs_part ?_
    | with_reducible refine Dx.rs_sl ?_
    | with_reducible refine Dx.rs_it ?_
    | with_reducible refine Dx.rs_its ?_
    | with_reducible refine Dx.rs_yes ?_
    | with_reducible refine Dx.rs_meth ?_
    | with_reducible refine Dx.rs_tru ?_
    | with_reducible refine Dx.rs_truB ?_
    | with_reducible refine Dx.rs_truI ?_
    | with_reducible refine Dx.rs_truL ?_
    | with_reducible refine Dx.rs_truT ?_
    | with_reducible refine Dx.rs_truN ?_
    | with_reducible refine Dx.rs_ifx ?_
    | with_reducible refine Dx.rs_add ?_
    | with_reducible refine Dx.rs_sub ?_
    | with_reducible refine Dx.rs_neg ?_
    | with_reducible refine Dx.rs_eqI ?_
    | with_reducible refine Dx.rs_neI ?_
    | with_reducible refine Dx.rs_eqS ?_
    | with_reducible refine Dx.rs_neS ?_
    | with_reducible refine Dx.rs_eqB ?_
    | with_reducible refine Dx.rs_neB ?_
    | with_reducible refine Dx.rs_lt ?_
    | with_reducible refine Dx.rs_le ?_
    | with_reducible refine Dx.rs_gt ?_
    | with_reducible refine Dx.rs_ge ?_
    | with_reducible refine Dx.rs_is ?_
    | with_reducible refine Dx.rs_isn ?_
    | with_reducible refine Dx.rs_inS ?_
    | with_reducible refine Dx.rs_ninS ?_
    | with_reducible refine Dx.rs_lenL ?_
    | with_reducible refine Dx.rs_lenF ?_
    | with_reducible refine Dx.rs_lenT ?_
    | with_reducible refine Dx.rs_int ?_
    | with_reducible refine Dx.rs_intB ?_
    | with_reducible refine Dx.rs_abs ?_
    | with_reducible refine Dx.rs_listL ?_
    | with_reducible refine Dx.rs_listT ?_
    | with_reducible refine Dx.rs_tupL ?_
    | with_reducible refine Dx.rs_tupT ?_
    | with_reducible refine Dx.rs_slL ?_
    | with_reducible refine Dx.rs_slO ?_
    | with_reducible refine Dx.rs_slT ?_
    | with_reducible refine Dx.rs_itsL ?_
    | with_reducible refine Dx.rs_itsT ?_
    | with_reducible refine Dx.rs_itsS ?_
    | with_reducible refine Dx.rs_enL ?_
    | with_reducible refine Dx.rs_enT ?_
    | with_reducible refine Dx.rs_enS ?_
    | with_reducible refine Dx.rs_ints ?_
    | with_reducible refine Dx.rs_sortI ?_
    | with_reducible refine Dx.rs_sum ?_
    | with_reducible refine Dx.rs_g2 ?_
    | with_reducible refine Dx.rs_all ?_
    | with_reducible refine Dx.rs_disp ?_
    | with_reducible refine Dx.rs_pnil ?_
    | with_reducible refine Dx.rs_pcons ?_
    | with_reducible refine Dx.rs_jnil ?_
    | with_reducible refine Dx.rs_jcons ?_
    | with_reducible refine Dx.rs_dJoin ?_
    | with_reducible refine Dx.rs_ord ?_
    | with_reducible refine Dx.rs_leS ?_
    | with_reducible refine Dx.rs_inKI ?_
    | with_reducible refine Dx.rs_inI ?_
    | with_reducible refine Dx.rs_ninI ?_
    | with_reducible refine Dx.rs_inTk ?_
    | with_reducible refine Dx.rs_getET ?_
    | with_reducible refine Dx.rs_dD0 ?_
    | with_reducible refine Dx.rs_listTk ?_
    | with_reducible refine Dx.rs_lenTk ?_
    | with_reducible refine Dx.rs_itTk ?_
    | with_reducible refine Dx.rs_end ?_
    | with_reducible refine Dx.rs_start ?_
    | with_reducible refine Dx.rs_star ?_
    | with_reducible refine Dx.rs_itemsL ?_
    | with_reducible refine Dx.rs_itemsT ?_
    | with_reducible refine Dx.rs_zipL ?_
    | with_reducible refine Dx.rs_zipS ?_
    | with_reducible refine Dx.rs_isi_non_bool ?_
    | with_reducible refine Dx.rs_isi_non_int ?_
    | with_reducible refine Dx.rs_isi_non_str ?_
    | with_reducible refine Dx.rs_isi_non_tuple ?_
    | with_reducible refine Dx.rs_isi_non_list ?_
    | with_reducible refine Dx.rs_isi_bl_bool ?_
    | with_reducible refine Dx.rs_isi_bl_int ?_
    | with_reducible refine Dx.rs_isi_bl_str ?_
    | with_reducible refine Dx.rs_isi_bl_tuple ?_
    | with_reducible refine Dx.rs_isi_bl_list ?_
    | with_reducible refine Dx.rs_isi_int_bool ?_
    | with_reducible refine Dx.rs_isi_int_int ?_
    | with_reducible refine Dx.rs_isi_int_str ?_
    | with_reducible refine Dx.rs_isi_int_tuple ?_
    | with_reducible refine Dx.rs_isi_int_list ?_
    | with_reducible refine Dx.rs_isi_str_bool ?_
    | with_reducible refine Dx.rs_isi_str_int ?_
    | with_reducible refine Dx.rs_isi_str_str ?_
    | with_reducible refine Dx.rs_isi_str_tuple ?_
    | with_reducible refine Dx.rs_isi_str_list ?_
    | with_reducible refine Dx.rs_isi_lst_bool ?_
    | with_reducible refine Dx.rs_isi_lst_int ?_
    | with_reducible refine Dx.rs_isi_lst_str ?_
    | with_reducible refine Dx.rs_isi_lst_tuple ?_
    | with_reducible refine Dx.rs_isi_lst_list ?_
    | with_reducible refine Dx.rs_isi_tup_bool ?_
    | with_reducible refine Dx.rs_isi_tup_int ?_
    | with_reducible refine Dx.rs_isi_tup_str ?_
    | with_reducible refine Dx.rs_isi_tup_tuple ?_
    | with_reducible refine Dx.rs_isi_tup_list ?_
    | with_reducible refine Dx.ss_nx ?_
    | with_reducible refine Dx.ss_bk ?_
    | with_reducible refine Dx.ss_ct ?_
    | with_reducible refine Dx.ss_seq ?_
    | with_reducible refine Dx.ss_set ?_
    | with_reducible refine Dx.ss_ret ?_
    | with_reducible refine Dx.ss_drop ?_
    | with_reducible refine Dx.ss_if ?_
    | with_reducible refine Dx.ss_par ?_
    | with_reducible refine Dx.ss_par3 ?_
    | with_reducible refine Dx.ss_aug ?_
    | ((with_reducible apply Dx.rs_var); · (rfl))
    | ((with_reducible apply Dx.rs_ixL); · (first | rfl | assumption))
    | ((with_reducible apply Dx.rs_ixF); · (first | rfl | assumption))
    | ((with_reducible apply Dx.rs_ixT); · (first | rfl | assumption))
    | ((with_reducible apply Dx.rs_fld); · (rfl))
    | ((with_reducible apply Dx.rs_isObj); · (decide))
    | ((with_reducible apply Dx.rs_mod); · (omega))
    | ((with_reducible apply Dx.rs_fdiv); · (omega))
    | ((with_reducible apply Dx.rs_addS); · ((first | exact Nat.le_of_ble_eq_true rfl | assumption | (refine Nat.le_trans (m := 100000) ?_ Dx.sz5; first | omega | (simp only [List.length_append, List.length_cons, List.length_nil, List.length_map, List.length_range, List.length_replicate, List.length_reverse, List.length_take, List.length_drop]; omega)))))
    | ((with_reducible apply Dx.rs_addT); · ((first | exact Nat.le_of_ble_eq_true rfl | assumption | (refine Nat.le_trans (m := 100000) ?_ Dx.sz5; first | omega | (simp only [List.length_append, List.length_cons, List.length_nil, List.length_map, List.length_range, List.length_replicate, List.length_reverse, List.length_take, List.length_drop]; omega)))))
    | ((with_reducible apply Dx.rs_addLL); · ((first | exact Nat.le_of_ble_eq_true rfl | assumption | (refine Nat.le_trans (m := 100000) ?_ Dx.sz5; first | omega | (simp only [List.length_append, List.length_cons, List.length_nil, List.length_map, List.length_range, List.length_replicate, List.length_reverse, List.length_take, List.length_drop]; omega)))))
    | ((with_reducible apply Dx.rs_addLO); · ((first | exact Nat.le_of_ble_eq_true rfl | assumption | (refine Nat.le_trans (m := 100000) ?_ Dx.sz5; first | omega | (simp only [List.length_append, List.length_cons, List.length_nil, List.length_map, List.length_range, List.length_replicate, List.length_reverse, List.length_take, List.length_drop]; omega)))))
    | ((with_reducible apply Dx.rs_lenS); · ((first | exact Nat.le_of_ble_eq_true rfl | assumption | (refine Nat.le_trans (m := 100000) ?_ Dx.sz5; first | omega | (simp only [List.length_append, List.length_cons, List.length_nil, List.length_map, List.length_range, List.length_replicate, List.length_reverse, List.length_take, List.length_drop]; omega)))))
    | ((with_reducible apply Dx.rs_slS); · ((first | exact Nat.le_of_ble_eq_true rfl | assumption | (refine Nat.le_trans (m := 100000) ?_ Dx.sz5; first | omega | (simp only [List.length_append, List.length_cons, List.length_nil, List.length_map, List.length_range, List.length_replicate, List.length_reverse, List.length_take, List.length_drop]; omega)))))
    | ((with_reducible apply Dx.rs_mul); · ((first | exact Or.inl (Dx.small_of (by omega) (by omega)) | exact Or.inr (Dx.small_of (by omega) (by omega)))))
    | ((with_reducible apply Dx.rs_strI); · (omega))
    | ((with_reducible apply Dx.rs_fmtI); · (omega))
    | ((with_reducible apply Dx.rs_fmtS); · ((first | exact Nat.le_of_ble_eq_true rfl | assumption | (refine Nat.le_trans (m := 100000) ?_ Dx.sz5; first | omega | (simp only [List.length_append, List.length_cons, List.length_nil, List.length_map, List.length_range, List.length_replicate, List.length_reverse, List.length_take, List.length_drop]; omega)))))
    | ((with_reducible apply Dx.rs_split); · (refine And.intro (by decide) ?_; (first | exact Nat.le_of_ble_eq_true rfl | assumption | (refine Nat.le_trans (m := 100000) ?_ Dx.sz5; first | omega | (simp only [List.length_append, List.length_cons, List.length_nil, List.length_map, List.length_range, List.length_replicate, List.length_reverse, List.length_take, List.length_drop]; omega)))))
    | ((with_reducible apply Dx.ss_app); · (rfl))
    | (with_reducible refine Dx.rs_tup ?_)
    | (with_reducible refine Dx.rs_lst ?_)
    | ((with_reducible refine And.intro (a := List.length _ ≤ PySem.sizeLine) ?_ ?_); · ((first | exact Nat.le_of_ble_eq_true rfl | assumption | (refine Nat.le_trans (m := 100000) ?_ Dx.sz5; first | omega | (simp only [List.length_append, List.length_cons, List.length_nil, List.length_map, List.length_range, List.length_replicate, List.length_reverse, List.length_take, List.length_drop]; omega)))))
    | ((with_reducible refine And.intro (a := List.length _ < PySem.sizeLine) ?_ ?_); · (first | exact Nat.le_of_ble_eq_true rfl | (refine Nat.lt_of_lt_of_le (m := 100000) ?_ Dx.sz5; first | omega | (simp only [List.length_append, List.length_cons, List.length_nil, List.length_map, List.length_range, List.length_replicate, List.length_reverse, List.length_take, List.length_drop]; omega))))
    | ((refine And.intro (fun h => absurd h ?_) (fun _ => ?_)); · (first | exact Bool.false_ne_true | (simp; done) | (simp; omega)))
    | ((refine And.intro (fun _ => ?_) (fun h => absurd h ?_)); rotate_left; · (first | exact (fun h => Bool.false_ne_true h.symm) | (simp; done) | (simp; omega)))))
section
theorem cell_eq (ns : List Int) (k : Nat) : F_l_cell [.fz (ns.map D.int), .int k] = .ok (.int (ns.getD k 0)) := Rs.eq (by
  refine rs_run ?_
  unfold Fb_l_cell
  array_get_dec
  refine ⟨fun h => ?_, fun h => ?_⟩
  · have h := of_decide_eq_true h
    rw [List.length_map] at h
    have hk : k < ns.length := by omega
    array_get_dec
    refine rs_ixF (atI_nat (by rw [List.getElem?_map, List.getElem?_eq_getElem hk]; rfl)) ?_
    array_get_dec
    rw [List.getD_eq_getElem?_getD, List.getElem?_eq_getElem hk]; rfl
  · have h := of_decide_eq_false h
    rw [List.length_map] at h
    have hk : ns.length ≤ k := by omega
    array_get_dec
    rw [List.getD_eq_getElem?_getD, List.getElem?_eq_none hk]; rfl)
theorem row_sp (c : Int) (ls : List Int) (hl : ∀ l ∈ ls, 0 < l ∧ l < 4611686018427387904) (hn : ls.length < 10000) : Rs (F_l_row [.int c, iL ls]) (fun d => ∃ vs, d = iL vs ∧ Fit vs ls) nE := by
  refine rs_run ?_
  unfold Fb_l_row
  array_get_dec
  refine ⟨fun hc => ?_, fun hc => ?_⟩
  · array_get_dec
    refine ss_each D.int ls (fun i r => ∃ vs rest y, Fit vs (ls.take i) ∧ r = [some (.int c), some (iL ls), some (iL vs), some (.int rest), y, none, none]) ?_ ?_ ?_ ?_
    · array_get_dec; rfl
    · exact ⟨[], _, none, trivial, rfl⟩
    · rintro i l r hi ⟨vs, rest, y, hf, rfl⟩
      have hl := hl l (List.mem_of_getElem? hi)
      have hlen := hf.len
      rw [List.length_take] at hlen
      unfold Lp_l_row_1
      array_get_dec
      refine ⟨vs ++ [rest % l], rest / l, some (.int l), ?_, by simp [iL]⟩
      rw [take_snoc hi]
      exact hf.snoc (Int.emod_nonneg _ (by omega)) (Int.emod_lt_of_pos _ hl.1)
    · rintro r ⟨vs, rest, y, hf, rfl⟩
      rw [List.take_length] at hf
      array_get_dec
      exact ⟨vs, rfl, hf⟩
  · array_get_dec
    refine ss_rng ls.length (fun i r => ∃ vs y z, Fit vs (ls.take i) ∧ r = [some (.int c), some (iL ls), some (iL vs), none, none, y, z]) ?_ (by omega) ?_ ?_ ?_
    · array_get_dec
      rw [List.length_map]
    · exact ⟨[], none, none, trivial, rfl⟩
    · rintro k r hk ⟨vs, y, z, hf, rfl⟩
      have hlen := hf.len
      rw [List.length_take] at hlen
      have hg : ls[k]? = some ls[k] := List.getElem?_eq_getElem hk
      have hl := hl ls[k] (List.getElem_mem hk)
      generalize ls[k] = l at hg hl
      unfold Lp_l_row_2
      array_get_dec
      refine rs_ixL (d := .int l) (atI_nat (by rw [List.getElem?_map, hg]; rfl)) ?_
      array_get_dec
      refine ⟨vs ++ [_], _, _, ?_, by simp [iL]; exact ⟨rfl, rfl, rfl⟩⟩
      rw [take_snoc hg]
      exact hf.snoc (Int.emod_nonneg _ (by omega)) (Int.emod_lt_of_pos _ hl.1)
    · rintro r ⟨vs, y, z, hf, rfl⟩
      rw [List.take_length] at hf
      array_get_dec
      exact ⟨vs, rfl, hf⟩
end
section
theorem row_of (c : Int) (ls : List Int) {Q : D → Prop} {E : Str → List Str → List D → Prop} (hl : ∀ l ∈ ls, 0 < l ∧ l < 4611686018427387904) (hn : ls.length < 10000) (q : ∀ vs, Fit vs ls → Q (iL vs)) : Rs (F_l_row [.int c, iL ls]) Q E := (row_sp c ls hl hn).imp fun d ⟨vs, e, h⟩ => by subst e; exact q vs h
theorem same_int (n : Nat) (i : Int) : F_l_same (n + 1) [.int i, .int i] = .ok (.bl true) := Rs.eq (by
  refine rs_run ?_
  unfold Fb_l_same
  sizeOf_list_dec
  simp)
theorem same_bl (n : Nat) (i : Bool) : F_l_same (n + 1) [.bl i, .bl i] = .ok (.bl true) := Rs.eq (by
  refine rs_run ?_
  unfold Fb_l_same
  sizeOf_list_dec
  simp)
theorem same_non (n : Nat) : F_l_same (n + 1) [.non, .non] = .ok (.bl true) := Rs.eq (by
  refine rs_run ?_
  unfold Fb_l_same
  sizeOf_list_dec
  rfl)
theorem same_str (n : Nat) (l : List Nat) : F_l_same (n + 1) [.str (Sg l), .str (Sg l)] = .ok (.bl true) := Rs.eq (by
  refine rs_run ?_
  unfold Fb_l_same
  sizeOf_list_dec
  simp)
theorem same_lst (n : Nat) (ds : List D) (hl : ds.length ≤ 10000) (h : ∀ d ∈ ds, F_l_same n [d, d] = .ok (.bl true)) : F_l_same (n + 1) [.lst ds, .lst ds] = .ok (.bl true) := Rs.eq (by
  refine rs_run ?_
  unfold Fb_l_same
  sizeOf_list_dec
  refine ss_rng ds.length (fun i r => ∃ x, r = [some (.lst ds), some (.lst ds), x]) (by array_get_dec; rfl) (by omega) ⟨none, rfl⟩ ?_ ?_
  · rintro i r hi ⟨x, rfl⟩
    show Ss (Lp_l_same_1 (F_l_same n) [some (.lst ds), some (.lst ds), some (.int (i : Int))]) _ _ _ _ _
    unfold Lp_l_same_1
    array_get_dec
    refine rs_ixL (atI_nat (List.getElem?_eq_getElem hi)) ?_
    array_get_dec
    refine rs_ixL (atI_nat (List.getElem?_eq_getElem hi)) ?_
    array_get_dec
    refine Rs.of (h _ (List.getElem_mem hi)) ?_
    sizeOf_list_dec
    exact ⟨_, rfl⟩
  · rintro r ⟨x, rfl⟩
    array_get_dec
    rfl)
theorem same_tup (n : Nat) (ds : List D) (hl : ds.length ≤ 10000) (h : ∀ d ∈ ds, F_l_same n [d, d] = .ok (.bl true)) : F_l_same (n + 1) [.tup ds, .tup ds] = .ok (.bl true) := Rs.eq (by
  refine rs_run ?_
  unfold Fb_l_same
  sizeOf_list_dec
  refine ss_rng ds.length (fun i r => ∃ x, r = [some (.tup ds), some (.tup ds), x]) (by array_get_dec; rfl) (by omega) ⟨none, rfl⟩ ?_ ?_
  · rintro i r hi ⟨x, rfl⟩
    show Ss (Lp_l_same_1 (F_l_same n) [some (.tup ds), some (.tup ds), some (.int (i : Int))]) _ _ _ _ _
    unfold Lp_l_same_1
    array_get_dec
    refine rs_ixT (atI_nat (List.getElem?_eq_getElem hi)) ?_
    array_get_dec
    refine rs_ixT (atI_nat (List.getElem?_eq_getElem hi)) ?_
    array_get_dec
    refine Rs.of (h _ (List.getElem_mem hi)) ?_
    sizeOf_list_dec
    exact ⟨_, rfl⟩
  · rintro r ⟨x, rfl⟩
    array_get_dec
    rfl)
end
section
structure Pc where
  w : Int
  k : Nat
  tw : Int
  ns : List Int
  cs : List Int
deriving DecidableEq, Inhabited
structure Bk where
  h : Int
  ind : Int
  bef : Int
  kp : Bool
  ps : List Pc
deriving DecidableEq, Inhabited
def sBl : List Nat := [98, 108, 97, 110, 107]
def sJo : List Nat := [106, 111, 105, 110, 116]
def sEn : List Nat := [101, 110, 100]
def tieS (p : Pc) : List Nat := if p.k = 0 then sBl else if p.k = 1 then sJo else sEn
def tieL (p : Pc) : List D := if p.k = 2 then [.str (Sg (tieS p))] else [.str (Sg (tieS p)), .int p.tw]
def iT (ns : List Int) : D := .tup (ns.map D.int)
def pcD (p : Pc) : D := .tup [.int p.w, .tup (tieL p), iT p.ns, iT p.cs]
def bkD (b : Bk) : D := .tup [.int b.h, .int b.ind, .int b.bef, .bl b.kp, .tup (b.ps.map pcD)]
abbrev bL (bs : List Bk) : D := .lst (bs.map bkD)
structure PcOk (p : Pc) : Prop where
  w : 1 ≤ p.w ∧ p.w ≤ 2000
  k : p.k ≤ 2
  t : 0 ≤ p.tw ∧ p.tw ≤ 2000
  n : ∀ h ∈ p.ns, 1 ≤ h ∧ h ≤ 2000
  nl : p.ns.length ≤ 4
  c : ∀ h ∈ p.cs, 1 ≤ h ∧ h ≤ 2000
structure BkOk (b : Bk) : Prop where
  h : 1 ≤ b.h ∧ b.h ≤ 2000
  i : 0 ≤ b.ind ∧ b.ind ≤ 2000
  f : 0 ≤ b.bef ∧ b.bef ≤ 2000
  p : ∀ p ∈ b.ps, PcOk p
  e : ∃ qs q, b.ps = qs ++ [q] ∧ q.k = 2 ∧ ∀ x ∈ qs, x.k < 2
def pieces (bs : List Bk) : List Pc := bs.flatMap (·.ps)
def figs (bs : List Bk) : List Int := (pieces bs).flatMap (·.cs)
structure WOk (bs : List Bk) : Prop where
  b : ∀ b ∈ bs, BkOk b
  p : (pieces bs).length ≤ 40
  f : (figs bs).length ≤ 4
theorem pieces_app (xs ys : List Bk) : pieces (xs ++ ys) = pieces xs ++ pieces ys := List.flatMap_append
theorem figs_app (xs ys : List Bk) : figs (xs ++ ys) = figs xs ++ figs ys := by unfold figs; rw [pieces_app, List.flatMap_append]
theorem WOk.len {bs : List Bk} (h : WOk bs) : bs.length ≤ 40 := by
  have : ∀ xs : List Bk, (∀ b ∈ xs, BkOk b) → xs.length ≤ (pieces xs).length := fun xs => by
    induction xs with
    | nil => intro _; simp
    | cons b xs ih =>
      intro hb
      have h1 := ih fun z hz => hb z (List.mem_cons_of_mem _ hz)
      obtain ⟨qs, q, e, _⟩ := (hb b List.mem_cons_self).e
      have : 1 ≤ b.ps.length := by rw [e]; simp
      unfold pieces at h1 ⊢
      rw [List.flatMap_cons, List.length_append, List.length_cons]
      omega
  exact Nat.le_trans (this bs h.b) h.p
theorem WOk.sub {xs ys zs : List Bk} (h : WOk (xs ++ ys ++ zs)) : WOk ys := by
  have h1 := h.p
  have h2 := h.f
  rw [pieces_app, pieces_app, List.length_append, List.length_append] at h1
  rw [figs_app, figs_app, List.length_append, List.length_append] at h2
  exact ⟨fun b hb => h.b b (by simp [hb]), by omega, by omega⟩
theorem WOk.take {bs : List Bk} (h : WOk bs) (n : Nat) : WOk (bs.take n) := WOk.sub (xs := []) (zs := bs.drop n) (by rw [List.nil_append, List.take_append_drop]; exact h)
theorem WOk.drop {bs : List Bk} (h : WOk bs) (n : Nat) : WOk (bs.drop n) := WOk.sub (xs := bs.take n) (zs := []) (by rw [List.append_nil, List.take_append_drop]; exact h)
def flA : Nat → Nat → List Bk → List (Pc × Nat × Nat × Nat)
  | _, _, [] => []
  | a, s, b :: bs => b.ps.map (fun p => (p, a, s, s + b.ps.length)) ++ flA (a + 1) (s + b.ps.length) bs
abbrev flL (bs : List Bk) : List (Pc × Nat × Nat × Nat) := flA 0 0 bs
def flD (t : Pc × Nat × Nat × Nat) : D := .tup [pcD t.1, .int (t.2.1 : Int), .int (t.2.2.1 : Int), .int (t.2.2.2 : Int)]
def spnD (t : Pc × Nat × Nat × Nat) : D := .tup [.int (t.2.1 : Int), .int (t.2.2.1 : Int), .int (t.2.2.2 : Int)]
theorem flA_1 : ∀ (bs : List Bk) (a s : Nat), (flA a s bs).map (·.1) = pieces bs
  | [], _, _ => rfl
  | b :: bs, a, s => by
    rw [flA, List.map_append, flA_1 bs]
    unfold pieces
    rw [List.flatMap_cons, List.map_map]
    congr 1
    exact List.map_id' _
theorem flA_len (bs : List Bk) (a s : Nat) : (flA a s bs).length = (pieces bs).length := by rw [← flA_1 bs a s, List.length_map]
theorem flA_app : ∀ (xs ys : List Bk) (a s : Nat), flA a s (xs ++ ys) = flA a s xs ++ flA (a + xs.length) (s + (pieces xs).length) ys
  | [], ys, a, s => rfl
  | x :: xs, ys, a, s => by
    rw [List.cons_append, flA, flA_app xs ys, flA, List.append_assoc, List.length_cons]
    unfold pieces
    rw [List.flatMap_cons, List.length_append, show a + 1 + xs.length = a + (xs.length + 1) from by omega, Nat.add_assoc]
theorem flL_snoc (xs : List Bk) (b : Bk) : flL (xs ++ [b]) = flL xs ++ b.ps.map fun p => (p, xs.length, (pieces xs).length, (pieces xs).length + b.ps.length) := by
  rw [flL, flA_app, flA, flA, List.append_nil, Nat.zero_add, Nat.zero_add]
/-- what is known of the piece i -/
structure At (bs : List Bk) (i : Nat) (p : Pc) (a s e : Nat) (b : Bk) : Prop where
  d : ∃ xs ys, bs = xs ++ b :: ys ∧ a = xs.length ∧ s = (pieces xs).length
  lo : s ≤ i
  hi : i < e
  e : e = s + b.ps.length
  q : b.ps[i - s]? = some p
section
variable {bs : List Bk} {i : Nat} {p : Pc} {a s e : Nat} {b : Bk}
theorem pieces_cons (b : Bk) (ys : List Bk) : pieces (b :: ys) = b.ps ++ pieces ys := List.flatMap_cons
theorem At.pp (h : At bs i p a s e b) : (pieces bs)[i]? = some p := by
  obtain ⟨xs, ys, rfl, rfl, rfl⟩ := h.d
  have h1 := h.lo
  have h2 := h.hi
  have h3 := h.e
  rw [pieces_app, pieces_cons, List.getElem?_append_right h1, List.getElem?_append_left (by omega)]
  exact h.q
theorem At.ff (h : At bs i p a s e b) : (flL bs)[i]? = some (p, a, s, e) := by
  obtain ⟨xs, ys, rfl, rfl, rfl⟩ := h.d
  have h1 := h.lo
  have h2 := h.hi
  have h3 := h.e
  rw [flL, flA_app, flA, List.getElem?_append_right (by rw [flA_len]; exact h1), flA_len, List.getElem?_append_left (by rw [List.length_map]; omega), List.getElem?_map, h.q, Nat.zero_add, Nat.zero_add, h3]
  rfl
theorem At.bb (h : At bs i p a s e b) : bs[a]? = some b := by
  obtain ⟨xs, ys, rfl, rfl, rfl⟩ := h.d
  rw [List.getElem?_append_right (Nat.le_refl _), Nat.sub_self]
  rfl
theorem At.mem (h : At bs i p a s e b) : b ∈ bs := List.mem_of_getElem? h.bb
theorem At.le (h : At bs i p a s e b) : e ≤ (pieces bs).length := by
  have h3 := h.e
  obtain ⟨xs, ys, rfl, rfl, rfl⟩ := h.d
  rw [pieces_app, pieces_cons, List.length_append, List.length_append]
  omega
/-- the same block for all pieces of a block -/
theorem At.mate (h : At bs i p a s e b) {j : Nat} (h1 : s ≤ j) (h2 : j < e) : ∃ q, At bs j q a s e b := by
  have hj : j - s < b.ps.length := by have := h.e; omega
  exact ⟨_, h.d, h1, h2, h.e, List.getElem?_eq_getElem hj⟩
theorem at_ex {bs : List Bk} {i : Nat} (h : i < (pieces bs).length) : ∃ p a s e b, At bs i p a s e b := by
  have key : ∀ ys xs : List Bk, (pieces xs).length ≤ i → i < (pieces (xs ++ ys)).length → ∃ p a s e b, At (xs ++ ys) i p a s e b := fun ys => by
    induction ys with
    | nil => intro xs h1 h2; rw [List.append_nil] at h2; omega
    | cons b ys ih =>
      intro xs h1 h2
      by_cases c : i < (pieces xs).length + b.ps.length
      · exact ⟨_, _, _, _, b, ⟨xs, ys, rfl, rfl, rfl⟩, h1, c, rfl, List.getElem?_eq_getElem (by omega)⟩
      · have e1 : xs ++ b :: ys = xs ++ [b] ++ ys := by simp
        rw [e1] at h2 ⊢
        refine ih (xs ++ [b]) ?_ h2
        rw [pieces_app, pieces_cons, List.length_append, List.length_append]
        simp only [pieces, List.flatMap_nil, List.length_nil] at c ⊢
        omega
  exact key bs [] (by simp [pieces]) h
end
end
section
def galD (bs : List Bk) : D := .obj "Galley" ["blocks", "spans", "all_pieces", "all_figures"] [bL bs, .lst ((flL bs).map spnD), .lst ((pieces bs).map pcD), iL (figs bs)]
theorem lc_id {α : Type} (g : α → D) (n : Nat) (r : Rho) (xs : List α) (h : n < r.length) : lcLoop (tgN n) dYes (dVar n) r (xs.map g) = .ok (xs.map g) := lc_mapX g g xs fun x _ => ⟨r.set n (some (g x)), rfl, rfl, by
  unfold dVar
  rw [List.getElem?_set_self h]
  rfl⟩
theorem rs_ixc {ds : List D} (k : Nat) {d : D} {Q : D → Prop} {E : Str → List Str → List D → Prop} (h : ds[k]? = some d) (q : Q d) : Rs (ixD (.tup ds) (.int (k : Int))) Q E := rs_ixT (atI_nat h) q
/-- a list of blocks, or the empty tuple -/
def BdOk (bs : List Bk) (bd : D) : Prop := bd = bL bs ∨ (bs = [] ∧ bd = .kt [])
theorem rs_itBd {bs : List Bk} {bd : D} (h : BdOk bs bd) {Q : List D → Prop} {E : Str → List Str → List D → Prop} (q : Q (bs.map bkD)) : Rs (itemsX bd) Q E := by
  rcases h with rfl | ⟨rfl, rfl⟩ <;> exact q
theorem rs_enBd {bs : List Bk} {bd : D} (h : BdOk bs bd) {Q : List D → Prop} {E : Str → List Str → List D → Prop} (q : Q (numd 0 (bs.map bkD))) : Rs (enumX bd) Q E := by
  rcases h with rfl | ⟨rfl, rfl⟩ <;> exact q
theorem rs_liBd {bs : List Bk} {bd : D} (h : BdOk bs bd) {Q : D → Prop} {E : Str → List Str → List D → Prop} (q : Q (bL bs)) : Rs (g1 listD [bd]) Q E := by
  rcases h with rfl | ⟨rfl, rfl⟩ <;> exact q
theorem pcs_eq (bs : List Bk) {bd : D} (hbd : BdOk bs bd) (hl : (pieces bs).length ≤ 1000) : F_pieces_in [bd] = .ok (.lst ((pieces bs).map pcD)) := Rs.eq (by
  refine rs_run ?_
  unfold Fb_pieces_in
  array_get_dec
  have e : (pieces bs).map pcD = bs.flatMap fun b => b.ps.map pcD := by unfold pieces; rw [List.map_flatMap]
  rw [e]
  refine rs_lc2 bkD (fun b => b.ps.map pcD) bs ?_ ?_ ?_ rfl
  · exact rs_it (rs_var rfl (rs_itBd hbd rfl))
  · intro b _
    refine ⟨_, rfl, ?_⟩
    array_get_dec
    refine rs_ixc (ds := [.int b.h, .int b.ind, .int b.bef, .bl b.kp, .tup (b.ps.map pcD)]) 4 rfl ?_
    array_get_dec
    exact lc_id pcD 2 _ _ (by simp [wipeR, startR])
  · rw [← e, List.length_map]
    exact Nat.le_trans (by omega) sz5)
theorem figs_eq (bs : List Bk) {bd : D} (hbd : BdOk bs bd) (hl : (pieces bs).length ≤ 1000) (hf : (figs bs).length ≤ 1000) : F_figures_in [bd] = .ok (iL (figs bs)) := Rs.eq (by
  refine rs_run ?_
  unfold Fb_figures_in
  array_get_dec
  have e : (figs bs).map D.int = (pieces bs).flatMap fun p => p.cs.map D.int := by unfold figs; rw [List.map_flatMap]
  rw [iL, e]
  refine rs_lc2 pcD (fun p => p.cs.map D.int) (pieces bs) ?_ ?_ ?_ rfl
  · array_get_dec
    exact Rs.of (pcs_eq bs hbd hl) (rs_itsL rfl)
  · intro p _
    refine ⟨_, rfl, ?_⟩
    array_get_dec
    refine rs_ixc (ds := [.int p.w, .tup (tieL p), iT p.ns, iT p.cs]) 3 rfl ?_
    unfold iT
    array_get_dec
    exact lc_id D.int 2 _ _ (by simp [wipeR, startR])
  · rw [← e, List.length_map]
    exact Nat.le_trans (by omega) sz5)
theorem flat_rep {α : Type} (n : Nat) (x : α) : (List.replicate n [x]).flatten = List.replicate n x := by
  induction n with
  | zero => rfl
  | succ n ih => rw [List.replicate_succ, List.flatten_cons, ih]; rfl
theorem numd_inv : ∀ (ds : List D) (n i : Nat) (e : D), (numd n ds)[i]? = some e → ∃ d, ds[i]? = some d ∧ e = .tup [.int ((n + i : Nat) : Int), d]
  | [], n, i, e, h => by simp [numd] at h
  | d :: ds, n, 0, e, h => ⟨d, rfl, by simpa [numd] using h.symm⟩
  | d :: ds, n, i + 1, e, h => by
    obtain ⟨x, h1, h2⟩ := numd_inv ds (n + 1) i e (by simpa [numd] using h)
    exact ⟨x, by simpa using h1, by rw [h2, show n + 1 + i = n + (i + 1) from by omega]⟩
theorem pieces_take_le (bs : List Bk) (n : Nat) : (pieces (bs.take n)).length ≤ (pieces bs).length := by
  conv => rhs; rw [← List.take_append_drop n bs]
  rw [pieces_app, List.length_append]
  omega
theorem spans_eq (bs : List Bk) {bd : D} (hbd : BdOk bs bd) (hl : (pieces bs).length ≤ 1000) (hb : bs.length ≤ 1000) : F_spans_in [bd] = .ok (.lst ((flL bs).map spnD)) := Rs.eq (by
  refine rs_run ?_
  unfold Fb_spans_in
  array_get_dec
  refine ss_for (fun i r => ∃ x2 x3 x4 x5, r = [some bd, some (.lst ((flL (bs.take i)).map spnD)), x2, x3, x4, x5]) ?_
  refine rs_it (rs_var rfl (rs_enBd hbd ?_))
  refine ⟨⟨none, none, none, none, rfl⟩, ?_, ?_⟩
  · rintro i d r hd ⟨x2, x3, x4, x5, rfl⟩
    obtain ⟨d, hd2, rfl⟩ := numd_inv _ _ _ _ hd
    rw [List.getElem?_map, Option.map_eq_some_iff] at hd2
    obtain ⟨b, hb, rfl⟩ := hd2
    have hlen : i < bs.length := (List.getElem?_eq_some_iff.mp hb).1
    have ht : (bs.take i).length = i := by rw [List.length_take]; omega
    have h1 := pieces_take_le bs (i + 1)
    rw [take_snoc hb, pieces_app, pieces_cons, List.length_append, List.length_append] at h1
    refine ⟨_, rfl, ?_⟩
    unfold Lp_spans_in_1
    refine ss_seq (ss_cut (fun z => z = [some bd, some (.lst ((flL (bs.take i)).map spnD)), some (.int (i : Int)), some (bkD b), some (.int ((pieces (bs.take i)).length : Int)), x5]) ?_ ?_)
    · array_get_dec
      rw [List.length_map, flA_len, Nat.zero_add]
      rfl
    rintro _ rfl
    refine ss_seq (ss_cut (fun z => z = [some bd, some (.lst ((flL (bs.take i)).map spnD)), some (.int (i : Int)), some (bkD b), some (.int ((pieces (bs.take i)).length : Int)), some (.int (((pieces (bs.take i)).length + b.ps.length : Nat) : Int))]) ?_ ?_)
    · array_get_dec
      refine rs_ixc (ds := [.int b.h, .int b.ind, .int b.bef, .bl b.kp, .tup (b.ps.map pcD)]) 4 rfl ?_
      array_get_dec
      rw [List.length_map]
      rfl
    rintro _ rfl
    refine ss_ext rfl ?_
    array_get_dec
    refine rs_ixc (ds := [.int b.h, .int b.ind, .int b.bef, .bl b.kp, .tup (b.ps.map pcD)]) 4 rfl ?_
    array_get_dec
    rw [List.length_map]
    refine rs_mulL ⟨by omega, by omega, ?_⟩ ?_
    · simp only [List.length_cons, List.length_nil, Int.toNat_natCast]
      exact Nat.le_trans (by omega) sz5
    rw [Int.toNat_natCast, flat_rep]
    refine rs_asL (And.intro ?_ ?_)
    · rw [List.length_map, flA_len, List.length_replicate]
      exact Nat.le_trans (by omega) sz5
    · rw [take_snoc hb, flL_snoc, List.map_append, List.map_map, ht]
      have e : (b.ps.map (spnD ∘ fun p => (p, i, (pieces (bs.take i)).length, (pieces (bs.take i)).length + b.ps.length))) = List.replicate b.ps.length (.tup [.int (i : Int), .int ((pieces (bs.take i)).length : Int), .int (((pieces (bs.take i)).length + b.ps.length : Nat) : Int)]) := by
        rw [← List.map_const']; rfl
      rw [e]
      exact ⟨_, _, _, _, rfl⟩
  · rintro r ⟨x2, x3, x4, x5, rfl⟩
    rw [numd_len, List.length_map, List.take_length]
    array_get_dec
    rfl)
theorem ginitX (bs : List Bk) {bd : D} (hbd : BdOk bs bd) (h : WOk bs) : F_Galley_init [bd] = .ok (galD bs) := Rs.eq (by
  have h1 := h.p
  have h2 := h.f
  refine rs_runI ?_
  unfold Fb_Galley_init
  refine ss_seq (ss_cut (fun z => z = [some (.obj "Galley" [] []), some bd, some (.lst ((pieces bs).map pcD)), some (iL (figs bs))]) ?_ ?_)
  · array_get_dec
    refine Rs.of (pcs_eq bs hbd (by omega)) ?_
    array_get_dec
    refine Rs.of (figs_eq bs hbd (by omega) (by omega)) ?_
    rfl
  rintro _ rfl
  refine ss_seq (ss_cut (fun z => z = [some (.obj "Galley" [] []), some bd, some (.lst ((pieces bs).map pcD)), some (iL (figs bs))]) ?_ ?_)
  · array_get_dec
    refine ⟨fun z => ?_, fun _ => rfl⟩
    have := of_decide_eq_true z
    rw [List.length_map] at this
    omega
  rintro _ rfl
  refine ss_seq (ss_cut (fun z => z = [some (.obj "Galley" [] []), some bd, some (.lst ((pieces bs).map pcD)), some (iL (figs bs))]) ?_ ?_)
  · array_get_dec
    refine ⟨fun z => ?_, fun _ => rfl⟩
    have := of_decide_eq_true z
    rw [List.length_map] at this
    omega
  rintro _ rfl
  refine ss_seq (ss_fst (ns := []) (vs := []) ?_)
  refine rs_call (rs_cons (rs_var rfl (rs_nil (rs_liBd hbd ?_))))
  refine ⟨rfl, by decide, ?_⟩
  refine ss_seq (ss_fst (ns := ["blocks"]) (vs := [bL bs]) ?_)
  array_get_dec
  refine Rs.of (spans_eq bs hbd (by omega) (Nat.le_trans h.len (by omega))) ⟨rfl, by decide, ?_⟩
  refine ss_seq (ss_fst (ns := ["blocks", "spans"]) (vs := [bL bs, .lst ((flL bs).map spnD)]) ?_)
  array_get_dec
  refine ⟨rfl, by decide, ?_⟩
  refine ss_fst (ns := ["blocks", "spans", "all_pieces"]) (vs := [bL bs, .lst ((flL bs).map spnD), .lst ((pieces bs).map pcD)]) ?_
  array_get_dec
  exact ⟨rfl, by decide, _, rfl, rfl⟩)
theorem ginit (bs : List Bk) (h : WOk bs) : F_Galley_init [bL bs] = .ok (galD bs) := ginitX bs (.inl rfl) h
theorem ginit0 : F_Galley_init [.kt []] = .ok (galD []) := ginitX [] (.inr ⟨rfl, rfl⟩) ⟨fun b hb => (by cases hb), (by simp [pieces]), (by simp [figs, pieces])⟩
theorem glen (bs : List Bk) : F_Galley_len [galD bs] = .ok (.int ((pieces bs).length : Int)) := Rs.eq (by
  refine rs_run ?_
  unfold Fb_Galley_len
  array_get_dec
  refine rs_fld (d := .lst ((pieces bs).map pcD)) rfl ?_
  array_get_dec
  rw [List.length_map])
theorem gpcs (bs : List Bk) : F_Galley_pieces [galD bs] = .ok (.lst ((pieces bs).map pcD)) := Rs.eq (by
  refine rs_run ?_
  unfold Fb_Galley_pieces
  array_get_dec
  refine rs_fld (d := .lst ((pieces bs).map pcD)) rfl ?_
  array_get_dec
  rfl)
theorem gblk {bs : List Bk} {i : Nat} {p : Pc} {a s e : Nat} {b : Bk} (h : At bs i p a s e b) : F_Galley_block_at [galD bs, .int (i : Int)] = .ok (spnD (p, a, s, e)) := Rs.eq (by
  refine rs_run ?_
  unfold Fb_Galley_block_at
  refine ss_seq (ss_cut (fun z => z = [some (galD bs), some (.int (i : Int))]) ?_ ?_)
  · array_get_dec
    refine rs_fld (d := .lst ((flL bs).map spnD)) rfl ?_
    array_get_dec
    refine ⟨fun z => ?_, fun _ => rfl⟩
    have h1 := h.hi
    have h2 := h.le
    rw [List.length_map, flA_len] at z
    exfalso
    have e1 : decide (0 ≤ (i : Int)) = true := decide_eq_true (by omega)
    have e2 : decide ((i : Int) < ((pieces bs).length : Int)) = true := decide_eq_true (by omega)
    rw [e1, e2] at z
    simp at z
  rintro _ rfl
  array_get_dec
  refine rs_fld (d := .lst ((flL bs).map spnD)) rfl ?_
  array_get_dec
  exact rs_ixL (atI_nat (by rw [List.getElem?_map, h.ff]; rfl)) rfl)
theorem rs_listG {bs : List Bk} {Q : D → Prop} {E : Str → List Str → List D → Prop} (h : WOk bs) (q : Q (bL bs)) : Rs (g1 (listO "Galley" "blocks" "all_pieces") [galD bs]) Q E :=
  rs_listO (es := (pieces bs).map pcD) rfl rfl (by rw [List.length_map]; exact Nat.le_trans (Nat.le_trans h.len (by omega)) sz5) (by rw [List.length_map]; exact Nat.le_trans (Nat.le_trans h.p (by omega)) sz5) q
end
section
structure Bn where
  rm : Int
  ht : Int
  jt : Int
  ov : Int
  kp : Int
  or : Int
  wd : Int
  wt : Int
  cl : Int
  gt : Int
  fl : Bool
deriving DecidableEq, Inhabited
structure BnOk (n : Bn) : Prop where
  rm : 1 ≤ n.rm ∧ n.rm ≤ 2000
  ht : 1 ≤ n.ht ∧ n.ht ≤ 2000
  jt : 0 ≤ n.jt ∧ n.jt ≤ 2000
  ov : 0 ≤ n.ov ∧ n.ov ≤ 2000
  kp : 0 ≤ n.kp ∧ n.kp ≤ 2000
  or : 0 ≤ n.or ∧ n.or ≤ 2000
  wd : 0 ≤ n.wd ∧ n.wd ≤ 2000
  wt : 0 ≤ n.wt ∧ n.wt ≤ 2000
  cl : 1 ≤ n.cl ∧ n.cl ≤ 4
  gt : 0 ≤ n.gt ∧ n.gt ≤ 40
def Bn.ds (n : Bn) : List D := [.int n.rm, .int n.ht, .int n.jt, .int n.ov, .int n.kp, .int n.or, .int n.wd, .int n.wt, .int n.cl, .int n.gt]
def bookD (n : Bn) : D := .obj "Book" ["room", "height", "joint", "over", "keep", "orphan", "widow", "wait", "columns", "gutter", "full", "field_values"] (n.ds ++ [.bl n.fl, .tup (n.ds ++ [.bl n.fl])])
theorem putN_new {fl : Str} (d : D) : ∀ (ns : List Str) {vs : List D}, fl ∉ ns → ns.length = vs.length → putN fl d ns vs = (ns ++ [fl], vs ++ [d])
  | [], [], _, _ => rfl
  | n :: ns, v :: vs, h, hl => by
    have h1 : ¬ n = fl := fun z => h (by rw [z]; exact List.mem_cons_self)
    have ih := putN_new d ns (vs := vs) (fun z => h (List.mem_cons_of_mem _ z)) (by simpa using hl)
    unfold putN
    first | rw [if_neg h1, ih] | rw [if_neg (fun z => h1 z.symm), ih]
    rfl
  | [], _ :: _, _, hl => by simp at hl
  | _ :: _, [], _, hl => by simp at hl
theorem ss_fst0 {n fl : Str} {ns ns' : List Str} {vs vs' : List D} {rest : Rho} {v : D} {f : Rho → Res D} {N B C : Rho → Prop} {R : D → Prop} {E : Rho → Str → List Str → List D → Prop} (h : Rs (f (some (.obj n ns vs) :: rest)) (fun d => d = v) nE) (hl : ns.length < 1000) (hp : putN fl v ns vs = (ns', vs')) (q : N (some (.obj n ns' vs') :: rest)) : Ss (fstF 0 n fl f (some (.obj n ns vs) :: rest)) N R B C E :=
  ss_fst (ns := ns) (vs := vs) (h.imp fun d e => by
    subst e
    refine ⟨rfl, hl, ?_⟩
    rw [hp]
    exact q)
theorem num_int (i : Int) : F_is_number [.int i] = .ok (.bl true) := Rs.eq (by
  refine rs_run ?_
  unfold Fb_is_number
  sizeOf_list_dec
  rfl)
theorem within (i lo hi : Int) (h1 : lo ≤ i) (h2 : i ≤ hi) : F_is_within [.int i, .int lo, .int hi] = .ok (.bl true) := Rs.eq (by
  refine rs_run ?_
  unfold Fb_is_within
  array_get_dec
  refine Rs.of (num_int i) ?_
  array_get_dec
  rw [decide_eq_true h1, decide_eq_true h2]
  rfl)
theorem binit (n : Bn) (h : BnOk n) : F_Book_init (n.ds ++ [.bl n.fl]) = .ok (bookD n) := Rs.eq (by
  obtain ⟨rm, ht, jt, ov, kp, or, wd, wt, cl, gt, fl⟩ := n
  obtain ⟨h1, h2, h3, h4, h5, h6, h7, h8, h9, h10⟩ := h
  dsimp only at h1 h2 h3 h4 h5 h6 h7 h8 h9 h10
  refine rs_runI ?_
  unfold Fb_Book_init
  have hq : ∀ d ∈ quads [.str "room", .str "height", .str "joint", .str "over", .str "keep", .str "orphan", .str "widow", .str "wait", .str "columns", .str "gutter", .str "full"] [.int rm, .int ht, .int jt, .int ov, .int kp, .int or, .int wd, .int wt, .int cl, .int gt] [.int 1, .int 1, .int 0, .int 0, .int 0, .int 0, .int 0, .int 0, .int 1, .int 0] [.int 2000, .int 2000, .int 2000, .int 2000, .int 2000, .int 2000, .int 2000, .int 2000, .int 4, .int 40], ∃ f i lo hi, d = .tup [f, .int i, .int lo, .int hi] ∧ lo ≤ i ∧ i ≤ hi := by
    intro d hd
    simp only [quads, List.mem_cons, List.not_mem_nil, or_false] at hd
    rcases hd with rfl | rfl | rfl | rfl | rfl | rfl | rfl | rfl | rfl | rfl
    · exact ⟨_, _, _, _, rfl, h1.1, h1.2⟩
    · exact ⟨_, _, _, _, rfl, h2.1, h2.2⟩
    · exact ⟨_, _, _, _, rfl, h3.1, h3.2⟩
    · exact ⟨_, _, _, _, rfl, h4.1, h4.2⟩
    · exact ⟨_, _, _, _, rfl, h5.1, h5.2⟩
    · exact ⟨_, _, _, _, rfl, h6.1, h6.2⟩
    · exact ⟨_, _, _, _, rfl, h7.1, h7.2⟩
    · exact ⟨_, _, _, _, rfl, h8.1, h8.2⟩
    · exact ⟨_, _, _, _, rfl, h9.1, h9.2⟩
    · exact ⟨_, _, _, _, rfl, h10.1, h10.2⟩
  refine ss_seq (ss_cut (fun z => z = [some (.obj "Book" [] []), some (.int rm), some (.int ht), some (.int jt), some (.int ov), some (.int kp), some (.int or), some (.int wd), some (.int wt), some (.int cl), some (.int gt), some (.bl fl), some (.tup [.int rm, .int ht, .int jt, .int ov, .int kp, .int or, .int wd, .int wt, .int cl, .int gt]), none, none, none, none]) ?_ ?_)
  · array_get_dec
    rfl
  rintro _ rfl
  refine ss_seq (ss_cut (fun z => ∃ rest : Rho, z = some (.obj "Book" [] []) :: rest ∧ rest[0]? = some (some (.int rm)) ∧ rest[1]? = some (some (.int ht)) ∧ rest[2]? = some (some (.int jt)) ∧ rest[3]? = some (some (.int ov)) ∧ rest[4]? = some (some (.int kp)) ∧ rest[5]? = some (some (.int or)) ∧ rest[6]? = some (some (.int wd)) ∧ rest[7]? = some (some (.int wt)) ∧ rest[8]? = some (some (.int cl)) ∧ rest[9]? = some (some (.int gt)) ∧ rest[10]? = some (some (.bl fl)) ∧ rest[11]? = some (some (.tup [.int rm, .int ht, .int jt, .int ov, .int kp, .int or, .int wd, .int wt, .int cl, .int gt]))) ?_ ?_)
  · refine ss_for (fun _ z => ∃ a b c d, z = [some (.obj "Book" [] []), some (.int rm), some (.int ht), some (.int jt), some (.int ov), some (.int kp), some (.int or), some (.int wd), some (.int wt), some (.int cl), some (.int gt), some (.bl fl), some (.tup [.int rm, .int ht, .int jt, .int ov, .int kp, .int or, .int wd, .int wt, .int cl, .int gt]), a, b, c, d]) ?_
    refine rs_its (rs_cons (rs_c (rs_cons (rs_var rfl (rs_cons (rs_c (rs_cons (rs_c (rs_nil ?_)))))))))
    refine Rs.of (a := quads _ _ _ _) rfl ⟨⟨_, _, _, _, rfl⟩, ?_, fun z ⟨a, b, c, d, hz⟩ => ⟨_, hz, rfl, rfl, rfl, rfl, rfl, rfl, rfl, rfl, rfl, rfl, rfl, rfl⟩⟩
    rintro i d z hd ⟨a, b, c, e, rfl⟩
    obtain ⟨f, j, lo, hi, rfl, g1, g2⟩ := hq d (List.mem_of_getElem? hd)
    refine ⟨_, rfl, ?_⟩
    unfold Lp_Book_init_1
    array_get_dec
    refine Rs.of (within j lo hi g1 g2) ?_
    sizeOf_list_dec
    exact ⟨_, _, _, _, rfl⟩
  rintro _ ⟨rest, rfl, k0, k1, k2, k3, k4, k5, k6, k7, k8, k9, k10, k11⟩
  refine ss_seq (ss_cut (fun z => z = some (.obj "Book" [] []) :: rest) ?_ ?_)
  · refine ss_if (rs_not (rs_T (rs_un (rs_var k10 (rs_isi_bl_bool (rs_asB ?_))))))
    exact ⟨fun z => (by cases z), fun _ => rfl⟩
  rintro _ rfl
  refine ss_seq (ss_fst0 (ns := []) (vs := []) (ns' := ["room"]) (vs' := [.int rm]) (v := .int rm) (rs_var k0 rfl) (Nat.le_of_ble_eq_true rfl) (putN_new _ _ (by decide +kernel) rfl) ?_)
  refine ss_seq (ss_fst0 (ns := ["room"]) (vs := [.int rm]) (ns' := ["room", "height"]) (vs' := [.int rm, .int ht]) (v := .int ht) (rs_var k1 rfl) (Nat.le_of_ble_eq_true rfl) (putN_new _ _ (by decide +kernel) rfl) ?_)
  refine ss_seq (ss_fst0 (ns := ["room", "height"]) (vs := [.int rm, .int ht]) (ns' := ["room", "height", "joint"]) (vs' := [.int rm, .int ht, .int jt]) (v := .int jt) (rs_var k2 rfl) (Nat.le_of_ble_eq_true rfl) (putN_new _ _ (by decide +kernel) rfl) ?_)
  refine ss_seq (ss_fst0 (ns := ["room", "height", "joint"]) (vs := [.int rm, .int ht, .int jt]) (ns' := ["room", "height", "joint", "over"]) (vs' := [.int rm, .int ht, .int jt, .int ov]) (v := .int ov) (rs_var k3 rfl) (Nat.le_of_ble_eq_true rfl) (putN_new _ _ (by decide +kernel) rfl) ?_)
  refine ss_seq (ss_fst0 (ns := ["room", "height", "joint", "over"]) (vs := [.int rm, .int ht, .int jt, .int ov]) (ns' := ["room", "height", "joint", "over", "keep"]) (vs' := [.int rm, .int ht, .int jt, .int ov, .int kp]) (v := .int kp) (rs_var k4 rfl) (Nat.le_of_ble_eq_true rfl) (putN_new _ _ (by decide +kernel) rfl) ?_)
  refine ss_seq (ss_fst0 (ns := ["room", "height", "joint", "over", "keep"]) (vs := [.int rm, .int ht, .int jt, .int ov, .int kp]) (ns' := ["room", "height", "joint", "over", "keep", "orphan"]) (vs' := [.int rm, .int ht, .int jt, .int ov, .int kp, .int or]) (v := .int or) (rs_var k5 rfl) (Nat.le_of_ble_eq_true rfl) (putN_new _ _ (by decide +kernel) rfl) ?_)
  refine ss_seq (ss_fst0 (ns := ["room", "height", "joint", "over", "keep", "orphan"]) (vs := [.int rm, .int ht, .int jt, .int ov, .int kp, .int or]) (ns' := ["room", "height", "joint", "over", "keep", "orphan", "widow"]) (vs' := [.int rm, .int ht, .int jt, .int ov, .int kp, .int or, .int wd]) (v := .int wd) (rs_var k6 rfl) (Nat.le_of_ble_eq_true rfl) (putN_new _ _ (by decide +kernel) rfl) ?_)
  refine ss_seq (ss_fst0 (ns := ["room", "height", "joint", "over", "keep", "orphan", "widow"]) (vs := [.int rm, .int ht, .int jt, .int ov, .int kp, .int or, .int wd]) (ns' := ["room", "height", "joint", "over", "keep", "orphan", "widow", "wait"]) (vs' := [.int rm, .int ht, .int jt, .int ov, .int kp, .int or, .int wd, .int wt]) (v := .int wt) (rs_var k7 rfl) (Nat.le_of_ble_eq_true rfl) (putN_new _ _ (by decide +kernel) rfl) ?_)
  refine ss_seq (ss_fst0 (ns := ["room", "height", "joint", "over", "keep", "orphan", "widow", "wait"]) (vs := [.int rm, .int ht, .int jt, .int ov, .int kp, .int or, .int wd, .int wt]) (ns' := ["room", "height", "joint", "over", "keep", "orphan", "widow", "wait", "columns"]) (vs' := [.int rm, .int ht, .int jt, .int ov, .int kp, .int or, .int wd, .int wt, .int cl]) (v := .int cl) (rs_var k8 rfl) (Nat.le_of_ble_eq_true rfl) (putN_new _ _ (by decide +kernel) rfl) ?_)
  refine ss_seq (ss_fst0 (ns := ["room", "height", "joint", "over", "keep", "orphan", "widow", "wait", "columns"]) (vs := [.int rm, .int ht, .int jt, .int ov, .int kp, .int or, .int wd, .int wt, .int cl]) (ns' := ["room", "height", "joint", "over", "keep", "orphan", "widow", "wait", "columns", "gutter"]) (vs' := [.int rm, .int ht, .int jt, .int ov, .int kp, .int or, .int wd, .int wt, .int cl, .int gt]) (v := .int gt) (rs_var k9 rfl) (Nat.le_of_ble_eq_true rfl) (putN_new _ _ (by decide +kernel) rfl) ?_)
  refine ss_seq (ss_fst0 (ns := ["room", "height", "joint", "over", "keep", "orphan", "widow", "wait", "columns", "gutter"]) (vs := [.int rm, .int ht, .int jt, .int ov, .int kp, .int or, .int wd, .int wt, .int cl, .int gt]) (ns' := ["room", "height", "joint", "over", "keep", "orphan", "widow", "wait", "columns", "gutter", "full"]) (vs' := [.int rm, .int ht, .int jt, .int ov, .int kp, .int or, .int wd, .int wt, .int cl, .int gt, .bl fl]) (v := .bl fl) (rs_var k10 rfl) (Nat.le_of_ble_eq_true rfl) (putN_new _ _ (by decide +kernel) rfl) ?_)
  refine (ss_fst0 (ns := ["room", "height", "joint", "over", "keep", "orphan", "widow", "wait", "columns", "gutter", "full"]) (vs := [.int rm, .int ht, .int jt, .int ov, .int kp, .int or, .int wd, .int wt, .int cl, .int gt, .bl fl]) (ns' := ["room", "height", "joint", "over", "keep", "orphan", "widow", "wait", "columns", "gutter", "full", "field_values"]) (vs' := [.int rm, .int ht, .int jt, .int ov, .int kp, .int or, .int wd, .int wt, .int cl, .int gt, .bl fl, .tup [.int rm, .int ht, .int jt, .int ov, .int kp, .int or, .int wd, .int wt, .int cl, .int gt, .bl fl]]) (v := .tup [.int rm, .int ht, .int jt, .int ov, .int kp, .int or, .int wd, .int wt, .int cl, .int gt, .bl fl]) ?_ (Nat.le_of_ble_eq_true rfl) (putN_new _ _ (by decide +kernel) rfl) ?_)
  · refine rs_op (rs_var k11 (rs_tup (rs_cons (rs_var k10 (rs_nil ⟨Nat.le_of_ble_eq_true rfl, ?_⟩)))))
    exact rs_addT (Nat.le_of_ble_eq_true rfl) rfl
  exact ⟨_, rfl, rfl⟩)
end
section
section
variable {N B C : Rho → Prop} {R : D → Prop} {E : Rho → Str → List Str → List D → Prop} {r : Rho}
theorem ss_eachT {α : Type} {m : Nat} {f : Rho → Res D} {F : Rho → SR} (g : α → D) (xs : List α) (I : Nat → Rho → Prop) (h : Rs (f r) (fun d => d = .tup (xs.map g)) (E r)) (h0 : I 0 r) (hs : ∀ i x r, xs[i]? = some x → I i r → Ss (F (r.set m (some (g x)))) (I (i + 1)) R N (I (i + 1)) E) (he : ∀ r, I xs.length r → N r) : Ss (forF (dIt itemsT f) (tgN m) F r) N R B C E :=
  ss_for I (rs_it (h.impE (fun d q => by
    subst q
    refine rs_itsT ⟨h0, fun i d r h1 h2 => ?_, fun r h => he r (by rw [List.length_map] at h; exact h)⟩
    rw [List.getElem?_map] at h1
    cases hx : xs[i]? with
    | none => rw [hx] at h1; cases h1
    | some x => rw [hx] at h1; cases h1; exact ⟨_, rfl, hs i x r hx h2⟩) fun _ _ _ z => z))
end
theorem tie_0 (p : Pc) : ∃ T, tieL p = .str (Sg (tieS p)) :: T := by
  unfold tieL
  split <;> exact ⟨_, rfl⟩
theorem tie_bl (p : Pc) (h : p.k ≤ 2) : decide (tieS p = sBl) = decide (p.k = 0) := by
  have : p.k = 0 ∨ p.k = 1 ∨ p.k = 2 := by omega
  unfold tieS
  rcases this with h | h | h <;> rw [h] <;> decide
theorem tie_jo (p : Pc) (h : p.k ≤ 2) : decide (tieS p = sJo) = decide (p.k = 1) := by
  have : p.k = 0 ∨ p.k = 1 ∨ p.k = 2 := by omega
  unfold tieS
  rcases this with h | h | h <;> rw [h] <;> decide
/-- the parts of a piece and of a tie -/
theorem rs_pc0 {p : Pc} {Q : D → Prop} {E : Str → List Str → List D → Prop} (q : Q (.int p.w)) : Rs (ixD (pcD p) (.int 0)) Q E := rs_ixc (ds := [.int p.w, .tup (tieL p), iT p.ns, iT p.cs]) 0 rfl q
theorem rs_pc1 {p : Pc} {Q : D → Prop} {E : Str → List Str → List D → Prop} (q : Q (.tup (tieL p))) : Rs (ixD (pcD p) (.int 1)) Q E := rs_ixc (ds := [.int p.w, .tup (tieL p), iT p.ns, iT p.cs]) 1 rfl q
theorem rs_pc2 {p : Pc} {Q : D → Prop} {E : Str → List Str → List D → Prop} (q : Q (iT p.ns)) : Rs (ixD (pcD p) (.int 2)) Q E := rs_ixc (ds := [.int p.w, .tup (tieL p), iT p.ns, iT p.cs]) 2 rfl q
theorem rs_pc3 {p : Pc} {Q : D → Prop} {E : Str → List Str → List D → Prop} (q : Q (iT p.cs)) : Rs (ixD (pcD p) (.int 3)) Q E := rs_ixc (ds := [.int p.w, .tup (tieL p), iT p.ns, iT p.cs]) 3 rfl q
theorem rs_tie0 {p : Pc} {Q : D → Prop} {E : Str → List Str → List D → Prop} (q : Q (.str (Sg (tieS p)))) : Rs (ixD (.tup (tieL p)) (.int 0)) Q E := by
  obtain ⟨T, e⟩ := tie_0 p
  rw [e]
  exact rs_ixc 0 rfl q
theorem rs_tie1 {p : Pc} {Q : D → Prop} {E : Str → List Str → List D → Prop} (h : p.k ≠ 2) (q : Q (.int p.tw)) : Rs (ixD (.tup (tieL p)) (.int 1)) Q E := by
  unfold tieL
  rw [if_neg h]
  exact rs_ixc 1 rfl q
theorem rs_bk0 {b : Bk} {Q : D → Prop} {E : Str → List Str → List D → Prop} (q : Q (.int b.h)) : Rs (ixD (bkD b) (.int 0)) Q E := rs_ixc (ds := [.int b.h, .int b.ind, .int b.bef, .bl b.kp, .tup (b.ps.map pcD)]) 0 rfl q
theorem rs_bk1 {b : Bk} {Q : D → Prop} {E : Str → List Str → List D → Prop} (q : Q (.int b.ind)) : Rs (ixD (bkD b) (.int 1)) Q E := rs_ixc (ds := [.int b.h, .int b.ind, .int b.bef, .bl b.kp, .tup (b.ps.map pcD)]) 1 rfl q
theorem rs_bk2 {b : Bk} {Q : D → Prop} {E : Str → List Str → List D → Prop} (q : Q (.int b.bef)) : Rs (ixD (bkD b) (.int 2)) Q E := rs_ixc (ds := [.int b.h, .int b.ind, .int b.bef, .bl b.kp, .tup (b.ps.map pcD)]) 2 rfl q
theorem rs_bk3 {b : Bk} {Q : D → Prop} {E : Str → List Str → List D → Prop} (q : Q (.bl b.kp)) : Rs (ixD (bkD b) (.int 3)) Q E := rs_ixc (ds := [.int b.h, .int b.ind, .int b.bef, .bl b.kp, .tup (b.ps.map pcD)]) 3 rfl q
theorem rs_bk4 {b : Bk} {Q : D → Prop} {E : Str → List Str → List D → Prop} (q : Q (.tup (b.ps.map pcD))) : Rs (ixD (bkD b) (.int 4)) Q E := rs_ixc (ds := [.int b.h, .int b.ind, .int b.bef, .bl b.kp, .tup (b.ps.map pcD)]) 4 rfl q
abbrev scD (ns : List Int) : D := .fz (ns.map D.int)
end
section
def wbl (p : Pc) : Int := p.w + (if p.k = 0 then p.tw else 0)
def sumW (ps : List Pc) : Int := (ps.map wbl).sum
def jnt (p : Pc) : Int := if p.k = 1 then p.tw else 0
/-- the line of the pieces i .. e - 1 without what is behind it; q is its last piece, s its block's first one -/
def bareW (bs : List Bk) (i e s : Nat) (b : Bk) (q : Pc) : Int := q.w + (if i = s then b.ind else 0) + sumW (((pieces bs).take (e - 1)).drop i)
def lineW (bs : List Bk) (i e s : Nat) (b : Bk) (q : Pc) : Int := bareW bs i e s b q + jnt q
theorem sumW_app (xs ys : List Pc) : sumW (xs ++ ys) = sumW xs + sumW ys := by unfold sumW; rw [List.map_append, List.sum_append]
theorem sumW_one (p : Pc) : sumW [p] = wbl p := by unfold sumW; simp
theorem rs_isG {bs : List Bk} {m : Str} {Q : Unit → Prop} {E : Str → List Str → List D → Prop} (h : m ∉ (["blocks", "spans", "all_pieces", "all_figures"] : List Str)) (q : Q ()) : Rs (isObj "Galley" m (galD bs)) Q E := rs_isObj h q
theorem isG (bs : List Bk) : isCls "Galley" (galD bs) = true := isCls_self
theorem rs_prop {n : Str} {F : List D → Res D} {f : Rho → Res D} {r : Rho} {Q : D → Prop} {E : Str → List Str → List D → Prop} (h : Rs (f r) (fun x => isCls n x = true ∧ ∃ d, F [x] = .ok d ∧ Q d) E) : Rs (dProp n F f r) Q E := Rs.bind (h.impE (fun x q => by
  obtain ⟨h1, d, h2, q⟩ := q
  rw [if_pos h1, h2]
  exact q) fun _ _ _ z => z)
theorem rs_pcs {bs : List Bk} {f : Rho → Res D} {r : Rho} {Q : D → Prop} {E : Str → List Str → List D → Prop} (h : Rs (f r) (fun x => x = galD bs) E) (q : Q (.lst ((pieces bs).map pcD))) : Rs (dProp "Galley" F_Galley_pieces f r) Q E := rs_prop (h.impE (fun x e => by
  subst e
  exact ⟨isG bs, _, gpcs bs, q⟩) fun _ _ _ z => z)
theorem at_pcs {bs : List Bk} {j : Nat} {i : Int} {p : Pc} (h : (pieces bs)[j]? = some p) (hi : i = (j : Int)) : atI ((pieces bs).map pcD) i = some (pcD p) := by
  subst hi
  exact atI_nat (by rw [List.getElem?_map, h]; rfl)
theorem rs_blk {bs : List Bk} {i : Nat} {p : Pc} {a s t : Nat} {b : Bk} (h : At bs i p a s t b) {f g : Rho → Res D} {r : Rho} {Q : D → Prop} {E : Str → List Str → List D → Prop} (h1 : Rs (f r) (fun x => x = galD bs) E) (h2 : Rs (g r) (fun x => x = .int (i : Int)) E) (q : Q (spnD (p, a, s, t))) :
    Rs (dMeth "Galley" "block_at" F_Galley_block_at f (dCons g dNil) r) Q E := rs_meth (h1.impE (fun x e => by
  subst e
  refine rs_isG (by decide +kernel) (rs_cons (h2.impE (fun y e => ?_) fun _ _ _ z => z))
  subst e
  exact rs_nil (Rs.of (gblk h) q)) fun _ _ _ z => z)
theorem rs_sp0 {t : Pc × Nat × Nat × Nat} {Q : D → Prop} {E : Str → List Str → List D → Prop} (q : Q (.int (t.2.1 : Int))) : Rs (ixD (spnD t) (.int 0)) Q E := rs_ixc (ds := [.int (t.2.1 : Int), .int (t.2.2.1 : Int), .int (t.2.2.2 : Int)]) 0 rfl q
theorem rs_sp1 {t : Pc × Nat × Nat × Nat} {Q : D → Prop} {E : Str → List Str → List D → Prop} (q : Q (.int (t.2.2.1 : Int))) : Rs (ixD (spnD t) (.int 1)) Q E := rs_ixc (ds := [.int (t.2.1 : Int), .int (t.2.2.1 : Int), .int (t.2.2.2 : Int)]) 1 rfl q
theorem rs_sp2 {t : Pc × Nat × Nat × Nat} {Q : D → Prop} {E : Str → List Str → List D → Prop} (q : Q (.int (t.2.2.2 : Int))) : Rs (ixD (spnD t) (.int 2)) Q E := rs_ixc (ds := [.int (t.2.1 : Int), .int (t.2.2.1 : Int), .int (t.2.2.2 : Int)]) 2 rfl q
theorem WOk.pc {bs : List Bk} (h : WOk bs) {p : Pc} (hp : p ∈ pieces bs) : PcOk p := by
  obtain ⟨b, hb, h1⟩ := List.mem_flatMap.mp hp
  exact (h.b b hb).p p h1
theorem sumW_nn {ps : List Pc} (h : ∀ p ∈ ps, PcOk p) : 0 ≤ sumW ps ∧ sumW ps ≤ 4000 * ps.length := by
  induction ps with
  | nil => simp [sumW]
  | cons p ps ih =>
    have h1 := ih fun q hq => h q (List.mem_cons_of_mem _ hq)
    have h2 := (h p List.mem_cons_self).w
    have h3 := (h p List.mem_cons_self).t
    have : sumW (p :: ps) = wbl p + sumW ps := by unfold sumW; simp
    have : 0 ≤ wbl p ∧ wbl p ≤ 4000 := by unfold wbl; split <;> omega
    rw [List.length_cons]
    omega
section
variable {bs : List Bk} {i e : Nat} {p q : Pc} {a s t : Nat} {b : Bk}
theorem bare_eq (hw : WOk bs) (h : At bs i p a s t b) (h1 : i < e) (h2 : At bs (e - 1) q a s t b) : F_bare_width [galD bs, .int (i : Int), .int (e : Int)] = .ok (.int (bareW bs i e s b q)) := Rs.eq (by
  have hq := h2.pp
  refine rs_run ?_
  unfold Fb_bare_width
  show Ss (seqF _ _ [some (galD bs), some (.int (i : Int)), some (.int (e : Int)), none, none, none, none]) _ _ _ _ _
  refine ss_seq (ss_cut (fun z => z = [some (galD bs), some (.int (i : Int)), some (.int (e : Int)), some (spnD (p, a, s, t)), none, none, none]) ?_ ?_)
  · exact ss_set (rs_blk h (rs_var rfl rfl) (rs_var rfl rfl) rfl)
  rintro _ rfl
  refine ss_seq (ss_cut (fun z => z = [some (galD bs), some (.int (i : Int)), some (.int (e : Int)), some (spnD (p, a, s, t)), some (.lst ((pieces bs).map pcD)), none, none]) ?_ ?_)
  · exact ss_set (rs_pcs (rs_var rfl rfl) rfl)
  rintro _ rfl
  refine ss_seq (ss_cut (fun z => z = [some (galD bs), some (.int (i : Int)), some (.int (e : Int)), some (spnD (p, a, s, t)), some (.lst ((pieces bs).map pcD)), some (.int q.w), none]) ?_ ?_)
  · array_get_dec
    refine rs_ixL (at_pcs hq (by omega)) (rs_c (rs_pc0 ?_))
    rfl
  rintro _ rfl
  refine ss_seq (ss_cut (fun z => z = [some (galD bs), some (.int (i : Int)), some (.int (e : Int)), some (spnD (p, a, s, t)), some (.lst ((pieces bs).map pcD)), some (.int (q.w + if i = s then b.ind else 0)), none]) ?_ ?_)
  · array_get_dec
    refine rs_sp1 ?_
    array_get_dec
    refine ⟨fun c => ?_, fun c => ?_⟩
    · have c := of_decide_eq_true c
      have c : i = s := by dsimp only at c; omega
      array_get_dec
      refine rs_listG hw ?_
      array_get_dec
      refine rs_sp0 ?_
      refine rs_ixL (d := bkD b) (atI_nat (by rw [List.getElem?_map, h.bb]; rfl)) ?_
      array_get_dec
      refine rs_bk1 ?_
      array_get_dec
      rw [if_pos c]
      rfl
    · have c := of_decide_eq_false c
      have c : ¬ i = s := by dsimp only at c; omega
      rw [if_neg c, Int.add_zero]
      rfl
  rintro _ rfl
  refine ss_seq (ss_cut (fun z => ∃ x6, z = [some (galD bs), some (.int (i : Int)), some (.int (e : Int)), some (spnD (p, a, s, t)), some (.lst ((pieces bs).map pcD)), some (.int (bareW bs i e s b q)), x6]) ?_ ?_)
  · refine ss_each pcD (((pieces bs).take (e - 1)).drop i) (fun j z => ∃ x6, z = [some (galD bs), some (.int (i : Int)), some (.int (e : Int)), some (spnD (p, a, s, t)), some (.lst ((pieces bs).map pcD)), some (.int (q.w + (if i = s then b.ind else 0) + sumW ((((pieces bs).take (e - 1)).drop i).take j))), x6]) ?_ ⟨none, ?_⟩ ?_ ?_
    · array_get_dec
      rw [show (e : Int) - 1 = ((e - 1 : Nat) : Int) from by omega, cut_mid, ← List.map_take, ← List.map_drop]
    · rw [List.take_zero, show sumW [] = 0 from rfl, Int.add_zero]
    · rintro j x z hj ⟨x6, rfl⟩
      have hx : PcOk x := hw.pc (List.mem_of_mem_take (List.mem_of_mem_drop (List.mem_of_getElem? hj)))
      rw [take_snoc hj, sumW_app, sumW_one, ← Int.add_assoc]
      unfold Lp_bare_width_1 wbl
      show Ss (seqF _ _ [some (galD bs), some (.int (i : Int)), some (.int (e : Int)), some (spnD (p, a, s, t)), some (.lst ((pieces bs).map pcD)), some (.int (q.w + (if i = s then b.ind else 0) + sumW ((((pieces bs).take (e - 1)).drop i).take j))), some (pcD x)]) _ _ _ _ _
      generalize q.w + (if i = s then b.ind else 0) + sumW ((((pieces bs).take (e - 1)).drop i).take j) = W0
      refine ss_seq (ss_cut (fun z => z = [some (galD bs), some (.int (i : Int)), some (.int (e : Int)), some (spnD (p, a, s, t)), some (.lst ((pieces bs).map pcD)), some (.int (W0 + x.w)), some (pcD x)]) ?_ ?_)
      · array_get_dec
        refine rs_pc0 ?_
        array_get_dec
        rfl
      rintro _ rfl
      array_get_dec
      refine rs_pc1 ?_
      array_get_dec
      refine rs_tie0 ?_
      array_get_dec
      rw [show [98, 108, 97, 110, 107] = sBl from rfl, tie_bl x hx.k]
      refine ⟨fun c => ?_, fun c => ?_⟩
      · have c := of_decide_eq_true c
        array_get_dec
        refine rs_pc1 ?_
        array_get_dec
        refine rs_tie1 (by omega) ?_
        array_get_dec
        rw [if_pos c, ← Int.add_assoc]
        exact ⟨_, rfl⟩
      · have c := of_decide_eq_false c
        rw [if_neg c, Int.add_zero]
        exact ⟨_, rfl⟩
    · rintro z ⟨x6, rfl⟩
      rw [List.take_length]
      exact ⟨x6, rfl⟩
  rintro _ ⟨x6, rfl⟩
  array_get_dec
  rfl)
theorem linew_eq (hw : WOk bs) (h : At bs i p a s t b) (h1 : i < e) (h2 : At bs (e - 1) q a s t b) : F_line_width [galD bs, .int (i : Int), .int (e : Int)] = .ok (.int (lineW bs i e s b q)) := Rs.eq (by
  have hq := h2.pp
  have hk := (hw.pc (List.mem_of_getElem? hq)).k
  refine rs_run ?_
  unfold Fb_line_width
  show Ss (seqF _ _ [some (galD bs), some (.int (i : Int)), some (.int (e : Int)), none, none]) _ _ _ _ _
  refine ss_seq (ss_cut (fun z => z = [some (galD bs), some (.int (i : Int)), some (.int (e : Int)), some (.int (bareW bs i e s b q)), none]) ?_ ?_)
  · array_get_dec
    exact Rs.of (bare_eq hw h h1 h2) rfl
  rintro _ rfl
  refine ss_seq (ss_cut (fun z => z = [some (galD bs), some (.int (i : Int)), some (.int (e : Int)), some (.int (bareW bs i e s b q)), some (.tup (tieL q))]) ?_ ?_)
  · refine ss_set (rs_op (rs_op (rs_pcs (rs_var rfl rfl) (rs_op (rs_var rfl (rs_c (rs_sub ?_)))))))
    refine rs_ixL (at_pcs hq (by omega)) (rs_c (rs_pc1 ?_))
    rfl
  rintro _ rfl
  refine ss_seq (ss_cut (fun z => z = [some (galD bs), some (.int (i : Int)), some (.int (e : Int)), some (.int (lineW bs i e s b q)), some (.tup (tieL q))]) ?_ ?_)
  · array_get_dec
    refine rs_tie0 ?_
    array_get_dec
    rw [show [106, 111, 105, 110, 116] = sJo from rfl, tie_jo q hk]
    unfold lineW jnt
    refine ⟨fun c => ?_, fun c => ?_⟩
    · have c := of_decide_eq_true c
      array_get_dec
      refine rs_tie1 (by omega) ?_
      array_get_dec
      rw [if_pos c]
      rfl
    · have c := of_decide_eq_false c
      rw [if_neg c, Int.add_zero]
      rfl
  rintro _ rfl
  array_get_dec
  rfl)
end
end
section
def gapW (n : Bn) (W : Int) (e t : Nat) : Int := if e = t then 0 else max2 0 (n.rm - W)
def costW (n : Bn) (W : Int) (e t : Nat) (q : Pc) : Int := gapW n W e t * gapW n W e t + n.ov * max2 0 (W - n.rm) + (if q.k = 1 then n.jt else 0)
section
variable {n : Bn} {Q : D → Prop} {E : Str → List Str → List D → Prop}
theorem rs_bf {fl : Str} {d : D} (h : lookF (["room", "height", "joint", "over", "keep", "orphan", "widow", "wait", "columns", "gutter", "full", "field_values"] : List Str) (n.ds ++ [.bl n.fl, .tup (n.ds ++ [.bl n.fl])]) fl = some d) (q : Q d) : Rs (fldD "Book" fl (bookD n)) Q E := rs_fld h q
theorem rs_rm (q : Q (.int n.rm)) : Rs (fldD "Book" "room" (bookD n)) Q E := rs_bf rfl q
theorem rs_ht (q : Q (.int n.ht)) : Rs (fldD "Book" "height" (bookD n)) Q E := rs_bf rfl q
theorem rs_jt (q : Q (.int n.jt)) : Rs (fldD "Book" "joint" (bookD n)) Q E := rs_bf rfl q
theorem rs_ov (q : Q (.int n.ov)) : Rs (fldD "Book" "over" (bookD n)) Q E := rs_bf rfl q
theorem rs_kp (q : Q (.int n.kp)) : Rs (fldD "Book" "keep" (bookD n)) Q E := rs_bf rfl q
theorem rs_orp (q : Q (.int n.or)) : Rs (fldD "Book" "orphan" (bookD n)) Q E := rs_bf rfl q
theorem rs_wdw (q : Q (.int n.wd)) : Rs (fldD "Book" "widow" (bookD n)) Q E := rs_bf rfl q
theorem rs_wt (q : Q (.int n.wt)) : Rs (fldD "Book" "wait" (bookD n)) Q E := rs_bf rfl q
end
section
variable {bs : List Bk} {i e : Nat} {p q : Pc} {a s t : Nat} {b : Bk} {n : Bn}
theorem lineW_nn (hw : WOk bs) (h : At bs i p a s t b) (h2 : At bs (e - 1) q a s t b) : 0 ≤ lineW bs i e s b q := by
  have hq := hw.pc (List.mem_of_getElem? h2.pp)
  have hb := hw.b b h.mem
  have h1 := hq.w
  have h3 := hq.t
  have h4 := hb.i
  have h5 := (sumW_nn (ps := ((pieces bs).take (e - 1)).drop i) fun x hx => hw.pc (List.mem_of_mem_take (List.mem_of_mem_drop hx))).1
  unfold lineW bareW jnt
  split <;> split <;> omega
theorem gap_eq (hw : WOk bs) (h : At bs i p a s t b) (h1 : i < e) (h2 : At bs (e - 1) q a s t b) : F_line_gap [galD bs, bookD n, .int (i : Int), .int (e : Int)] = .ok (.int (gapW n (lineW bs i e s b q) e t)) := Rs.eq (by
  refine rs_run ?_
  unfold Fb_line_gap gapW
  show Ss (seqF _ _ [some (galD bs), some (bookD n), some (.int (i : Int)), some (.int (e : Int))]) _ _ _ _ _
  refine ss_seq (ss_if (rs_T (rs_op (rs_var rfl (rs_op (rs_blk h (rs_var rfl rfl) (rs_var rfl rfl) (rs_c (rs_sp2 (rs_eqI (rs_asB ?_))))))))))
  refine ⟨fun c => ?_, fun c => ?_⟩
  · have c := of_decide_eq_true c
    have c : e = t := by dsimp only at c; omega
    array_get_dec
    rw [if_pos c]
  · have c := of_decide_eq_false c
    have c : ¬ e = t := by dsimp only at c; omega
    array_get_dec
    refine rs_rm ?_
    array_get_dec
    refine Rs.of (linew_eq hw h h1 h2) ?_
    array_get_dec
    rw [if_neg c])
theorem gapW_bd (hn : BnOk n) {W : Int} (hW : 0 ≤ W) : 0 ≤ gapW n W e t ∧ gapW n W e t ≤ 2000 := by
  have := hn.rm
  unfold gapW max2
  split
  · omega
  · split <;> omega
theorem cost_eq (hw : WOk bs) (hn : BnOk n) (h : At bs i p a s t b) (h1 : i < e) (h2 : At bs (e - 1) q a s t b) : F_line_cost [galD bs, bookD n, .int (i : Int), .int (e : Int)] = .ok (.int (costW n (lineW bs i e s b q) e t q)) := Rs.eq (by
  have hq := h2.pp
  have hk := (hw.pc (List.mem_of_getElem? hq)).k
  have hov := hn.ov
  have hg := gapW_bd (e := e) (t := t) hn (lineW_nn (i := i) hw h h2)
  refine rs_run ?_
  unfold Fb_line_cost costW
  show Ss (seqF _ _ [some (galD bs), some (bookD n), some (.int (i : Int)), some (.int (e : Int)), none, none, none]) _ _ _ _ _
  generalize hW : lineW bs i e s b q = W at hg
  generalize hG : gapW n W e t = G at hg
  refine ss_seq (ss_cut (fun z => z = [some (galD bs), some (bookD n), some (.int (i : Int)), some (.int (e : Int)), some (.int G), none, none]) ?_ ?_)
  · array_get_dec
    refine Rs.of (gap_eq hw h h1 h2) ?_
    rw [hW, hG]
    rfl
  rintro _ rfl
  refine ss_seq (ss_cut (fun z => z = [some (galD bs), some (bookD n), some (.int (i : Int)), some (.int (e : Int)), some (.int G), some (.int (max2 0 (W - n.rm))), none]) ?_ ?_)
  · array_get_dec
    refine Rs.of (linew_eq hw h h1 h2) ?_
    array_get_dec
    refine rs_rm ?_
    array_get_dec
    rw [hW]
    rfl
  rintro _ rfl
  refine ss_seq (ss_cut (fun z => z = [some (galD bs), some (bookD n), some (.int (i : Int)), some (.int (e : Int)), some (.int G), some (.int (max2 0 (W - n.rm))), some (.int (G * G + n.ov * max2 0 (W - n.rm)))]) ?_ ?_)
  · array_get_dec
    refine rs_ov ?_
    array_get_dec
    rfl
  rintro _ rfl
  refine ss_seq (ss_cut (fun z => z = [some (galD bs), some (bookD n), some (.int (i : Int)), some (.int (e : Int)), some (.int G), some (.int (max2 0 (W - n.rm))), some (.int (G * G + n.ov * max2 0 (W - n.rm) + if q.k = 1 then n.jt else 0))]) ?_ ?_)
  · refine ss_if (rs_T (rs_op (rs_op (rs_op (rs_op (rs_pcs (rs_var rfl rfl) (rs_op (rs_var rfl (rs_c (rs_sub ?_))))))))))
    refine rs_ixL (at_pcs hq (by omega)) (rs_c (rs_pc1 (rs_c (rs_tie0 (rs_c (rs_eqS (rs_asB ?_)))))))
    rw [show [106, 111, 105, 110, 116] = sJo from rfl, tie_jo q hk]
    refine ⟨fun c => ?_, fun c => ?_⟩
    · have c := of_decide_eq_true c
      array_get_dec
      refine rs_jt ?_
      array_get_dec
      rw [if_pos c]
      rfl
    · have c := of_decide_eq_false c
      rw [if_neg c, Int.add_zero]
      rfl
  rintro _ rfl
  array_get_dec
  rfl)
end
theorem rs_fl0 {t : Pc × Nat × Nat × Nat} {Q : D → Prop} {E : Str → List Str → List D → Prop} (q : Q (pcD t.1)) : Rs (ixD (flD t) (.int 0)) Q E := rs_ixc (ds := [pcD t.1, .int (t.2.1 : Int), .int (t.2.2.1 : Int), .int (t.2.2.2 : Int)]) 0 rfl q
theorem rs_fl1 {t : Pc × Nat × Nat × Nat} {Q : D → Prop} {E : Str → List Str → List D → Prop} (q : Q (.int (t.2.1 : Int))) : Rs (ixD (flD t) (.int 1)) Q E := rs_ixc (ds := [pcD t.1, .int (t.2.1 : Int), .int (t.2.2.1 : Int), .int (t.2.2.2 : Int)]) 1 rfl q
theorem rs_fl2 {t : Pc × Nat × Nat × Nat} {Q : D → Prop} {E : Str → List Str → List D → Prop} (q : Q (.int (t.2.2.1 : Int))) : Rs (ixD (flD t) (.int 2)) Q E := rs_ixc (ds := [pcD t.1, .int (t.2.1 : Int), .int (t.2.2.1 : Int), .int (t.2.2.2 : Int)]) 2 rfl q
theorem rs_fl3 {t : Pc × Nat × Nat × Nat} {Q : D → Prop} {E : Str → List Str → List D → Prop} (q : Q (.int (t.2.2.2 : Int))) : Rs (ixD (flD t) (.int 3)) Q E := rs_ixc (ds := [pcD t.1, .int (t.2.1 : Int), .int (t.2.2.1 : Int), .int (t.2.2.2 : Int)]) 3 rfl q
theorem flat_eq (bs : List Bk) (hw : WOk bs) : F_l_flat [bL bs] = .ok (.lst ((flL bs).map flD)) := Rs.eq (by
  have hb := hw.len
  have hp := hw.p
  refine rs_run ?_
  unfold Fb_l_flat
  show Ss (seqF _ _ [some (bL bs), none, none, none, none]) _ _ _ _ _
  array_get_dec
  refine ss_rng bs.length (fun i z => ∃ x2 x3 x4, z = [some (bL bs), some (.lst ((flL (bs.take i)).map flD)), x2, x3, x4]) ?_ (by omega) ⟨none, none, none, rfl⟩ ?_ ?_
  · array_get_dec
    rw [List.length_map]
  · rintro i z hi ⟨x2, x3, x4, rfl⟩
    obtain ⟨b, hb⟩ : ∃ b, bs[i]? = some b := ⟨_, List.getElem?_eq_getElem hi⟩
    have ht : (bs.take i).length = i := by rw [List.length_take]; omega
    have hl := pieces_take_le bs (i + 1)
    rw [take_snoc hb, pieces_app, pieces_cons, List.length_append, List.length_append] at hl
    have hix : atI (bs.map bkD) (i : Int) = some (bkD b) := atI_nat (by rw [List.getElem?_map, hb]; rfl)
    rw [take_snoc hb, flL_snoc, ht]
    unfold Lp_l_flat_2
    refine ss_seq (ss_cut (fun z => z = [some (bL bs), some (.lst ((flL (bs.take i)).map flD)), some (.int (i : Int)), some (.int ((pieces (bs.take i)).length : Int)), x4]) ?_ ?_)
    · array_get_dec
      rw [List.length_map, flA_len]
      rfl
    rintro _ rfl
    generalize hs : (pieces (bs.take i)).length = s0 at hl
    have hfl : (flL (bs.take i)).length = s0 := by rw [flA_len, hs]
    refine ss_eachT pcD b.ps (fun j z => ∃ x4, z = [some (bL bs), some (.lst ((flL (bs.take i) ++ (b.ps.take j).map fun p => (p, i, s0, s0 + b.ps.length)).map flD)), some (.int (i : Int)), some (.int (s0 : Int)), x4]) ?_ ⟨x4, by simp⟩ ?_ ?_
    · array_get_dec
      exact rs_bk4 rfl
    · rintro j p z hj ⟨x4, rfl⟩
      have hjl : j < b.ps.length := (List.getElem?_eq_some_iff.mp hj).1
      unfold Lp_l_flat_1
      show Ss (appF _ _ [some (bL bs), some (.lst ((flL (bs.take i) ++ (b.ps.take j).map fun p => (p, i, s0, s0 + b.ps.length)).map flD)), some (.int (i : Int)), some (.int (s0 : Int)), some (pcD p)]) _ _ _ _ _
      have hlen : ((flL (bs.take i) ++ (b.ps.take j).map fun p => (p, i, s0, s0 + b.ps.length)).map flD).length < 100000 := by
        rw [List.length_map, List.length_append, List.length_map, List.length_take, hfl]
        omega
      have e : (flL (bs.take i) ++ (b.ps.take (j + 1)).map fun p => (p, i, s0, s0 + b.ps.length)).map flD = (flL (bs.take i) ++ (b.ps.take j).map fun p => (p, i, s0, s0 + b.ps.length)).map flD ++ [.tup [pcD p, .int (i : Int), .int (s0 : Int), .int ((s0 : Int) + (b.ps.length : Int))]] := by
        rw [take_snoc hj]
        simp only [List.map_append, List.append_assoc]
        rfl
      rw [e]
      generalize (flL (bs.take i) ++ (b.ps.take j).map fun p => (p, i, s0, s0 + b.ps.length)).map flD = X at hlen
      array_get_dec
      refine rs_bk4 ?_
      array_get_dec
      rw [List.length_map]
      exact ⟨_, rfl⟩
    · rintro z ⟨x4, rfl⟩
      rw [List.take_length]
      exact ⟨_, _, _, rfl⟩
  · rintro z ⟨x2, x3, x4, rfl⟩
    rw [List.take_length]
    array_get_dec
    rfl)
section
variable {bs : List Bk} {i e : Nat} {p q : Pc} {a s t : Nat} {b : Bk}
theorem at_fl {j : Nat} {x : Pc} {a s t : Nat} {b : Bk} (h : At bs j x a s t b) {k : Int} (hk : k = (j : Int)) : atI ((flL bs).map flD) k = some (flD (x, a, s, t)) := by
  subst hk
  exact atI_nat (by rw [List.getElem?_map, h.ff]; rfl)
theorem lwidth_eq (hw : WOk bs) (h : At bs i p a s t b) (h1 : i < e) (h2 : At bs (e - 1) q a s t b) : F_l_width [bL bs, .lst ((flL bs).map flD), .int (i : Int), .int (e : Int)] = .ok (.int (lineW bs i e s b q)) := Rs.eq (by
  have hp := hw.p
  have he : e ≤ (pieces bs).length := by have := h2.hi; have := h2.le; omega
  have hk := (hw.pc (List.mem_of_getElem? h2.pp)).k
  have hlo := h.lo
  have hhi := h2.hi
  refine rs_run ?_
  unfold Fb_l_width
  show Ss (seqF _ _ [some (bL bs), some (.lst ((flL bs).map flD)), some (.int (i : Int)), some (.int (e : Int)), none, none, none]) _ _ _ _ _
  obtain ⟨L, hL⟩ : ∃ L, ((pieces bs).take (e - 1)).drop i = L := ⟨_, rfl⟩
  have hLl : L.length = e - 1 - i := by rw [← hL, List.length_drop, List.length_take]; omega
  refine ss_seq (ss_cut (fun z => z = [some (bL bs), some (.lst ((flL bs).map flD)), some (.int (i : Int)), some (.int (e : Int)), some (.int 0), none, none]) ?_ ?_)
  · array_get_dec
    rfl
  rintro _ rfl
  refine ss_seq (ss_cut (fun z => ∃ x5 x6, z = [some (bL bs), some (.lst ((flL bs).map flD)), some (.int (i : Int)), some (.int (e : Int)), some (.int (sumW L + q.w)), x5, x6]) ?_ ?_)
  · refine ss_rng2 i e (fun j z => ∃ x5 x6, z = [some (bL bs), some (.lst ((flL bs).map flD)), some (.int (i : Int)), some (.int (e : Int)), some (.int (sumW (L.take j) + if i + j = e then q.w else 0)), x5, x6]) ?_ ?_ (by omega) (by omega) ⟨none, none, ?_⟩ ?_ ?_
    · array_get_dec
      rfl
    · array_get_dec
      rfl
    · rw [if_neg (by omega), List.take_zero]
      rfl
    · rintro j z hj ⟨x5, x6, rfl⟩
      obtain ⟨x, hx⟩ := h.mate (j := i + j) (by omega) (by omega)
      have hxk := (hw.pc (List.mem_of_getElem? hx.pp)).k
      rw [if_neg (show ¬ i + j = e by omega), Int.add_zero]
      unfold Lp_l_width_1
      show Ss (seqF _ _ [some (bL bs), some (.lst ((flL bs).map flD)), some (.int (i : Int)), some (.int (e : Int)), some (.int (sumW (L.take j))), some (.int ((i + j : Nat) : Int)), x6]) _ _ _ _ _
      refine ss_seq (ss_cut (fun z => z = [some (bL bs), some (.lst ((flL bs).map flD)), some (.int (i : Int)), some (.int (e : Int)), some (.int (sumW (L.take j))), some (.int ((i + j : Nat) : Int)), some (pcD x)]) ?_ ?_)
      · array_get_dec
        refine rs_ixL (at_fl hx rfl) ?_
        array_get_dec
        refine rs_fl0 ?_
        rfl
      rintro _ rfl
      refine ss_seq (ss_cut (fun z => z = [some (bL bs), some (.lst ((flL bs).map flD)), some (.int (i : Int)), some (.int (e : Int)), some (.int (sumW (L.take j) + x.w)), some (.int ((i + j : Nat) : Int)), some (pcD x)]) ?_ ?_)
      · array_get_dec
        refine rs_pc0 ?_
        array_get_dec
        rfl
      rintro _ rfl
      by_cases hj2 : i + j = e - 1
      · have hxq : x = q := by
          have h3 := hx.pp
          rw [hj2, h2.pp] at h3
          exact (Option.some.inj h3).symm
        subst hxq
        have hT : L.take (j + 1) = L.take j := by rw [List.take_of_length_le (by omega), List.take_of_length_le (by omega)]
        rw [hT, if_pos (show i + (j + 1) = e by omega)]
        refine ss_if ?_
        refine rs_andc (rs_T (rs_op (rs_var rfl (rs_op (rs_var rfl (rs_c (rs_sub (rs_lt (rs_asB ?_))))))))) 
        refine ⟨fun c => ?_, fun _ => ⟨fun z => (by cases z), fun _ => ⟨_, _, rfl⟩⟩⟩
        have := of_decide_eq_true c
        exfalso
        omega
      · have hT : L[j]? = some x := by rw [← hL, List.getElem?_drop, List.getElem?_take_of_lt (by omega)]; exact hx.pp
        rw [take_snoc hT, sumW_app, sumW_one, if_neg (show ¬ i + (j + 1) = e by omega), Int.add_zero]
        refine ss_if ?_
        refine rs_andc (rs_T (rs_op (rs_var rfl (rs_op (rs_var rfl (rs_c (rs_sub (rs_lt (rs_asB ?_)))))))))
        refine ⟨fun _ => ?_, fun c => absurd (of_decide_eq_false c) (by omega)⟩
        array_get_dec
        refine rs_pc1 ?_
        array_get_dec
        refine rs_tie0 ?_
        array_get_dec
        rw [show [98, 108, 97, 110, 107] = sBl from rfl, tie_bl x hxk]
        unfold wbl
        refine ⟨fun c => ?_, fun c => ?_⟩
        · have c := of_decide_eq_true c
          array_get_dec
          refine rs_pc1 ?_
          array_get_dec
          refine rs_tie1 (by omega) ?_
          array_get_dec
          rw [if_pos c, ← Int.add_assoc]
          exact ⟨_, _, rfl⟩
        · have c := of_decide_eq_false c
          rw [if_neg c, Int.add_zero]
          exact ⟨_, _, rfl⟩
    · rintro z ⟨x5, x6, rfl⟩
      rw [if_pos (show i + (e - i) = e by omega), List.take_of_length_le (show L.length ≤ e - i by rw [hLl]; omega)]
      exact ⟨_, _, rfl⟩
  rintro _ ⟨x5, x6, rfl⟩
  refine ss_seq (ss_cut (fun z => z = [some (bL bs), some (.lst ((flL bs).map flD)), some (.int (i : Int)), some (.int (e : Int)), some (.int (sumW L + q.w + jnt q)), x5, x6]) ?_ ?_)
  · array_get_dec
    refine rs_ixL (at_fl h2 (by omega)) ?_
    array_get_dec
    refine rs_fl0 ?_
    array_get_dec
    refine rs_pc1 ?_
    array_get_dec
    refine rs_tie0 ?_
    array_get_dec
    rw [show [106, 111, 105, 110, 116] = sJo from rfl, tie_jo q hk]
    unfold jnt
    refine ⟨fun c => ?_, fun c => ?_⟩
    · have c := of_decide_eq_true c
      array_get_dec
      refine rs_ixL (at_fl h2 (by omega)) ?_
      array_get_dec
      refine rs_fl0 ?_
      array_get_dec
      refine rs_pc1 ?_
      array_get_dec
      refine rs_tie1 (show q.k ≠ 2 by omega) ?_
      array_get_dec
      rw [if_pos c]
      rfl
    · have c := of_decide_eq_false c
      rw [if_neg c, Int.add_zero]
      rfl
  rintro _ rfl
  refine ss_seq (ss_cut (fun z => z = [some (bL bs), some (.lst ((flL bs).map flD)), some (.int (i : Int)), some (.int (e : Int)), some (.int (lineW bs i e s b q)), x5, x6]) ?_ ?_)
  · unfold lineW bareW
    rw [hL]
    array_get_dec
    refine rs_ixL (at_fl h rfl) ?_
    array_get_dec
    refine rs_fl2 ?_
    array_get_dec
    refine ⟨fun c => ?_, fun c => ?_⟩
    · have c := of_decide_eq_true c
      have c : i = s := by dsimp only at c; omega
      array_get_dec
      refine rs_ixL (at_fl h rfl) ?_
      array_get_dec
      refine rs_fl1 ?_
      refine rs_ixL (d := bkD b) (atI_nat (by rw [List.getElem?_map, h.bb]; rfl)) ?_
      array_get_dec
      refine rs_bk1 ?_
      array_get_dec
      rw [if_pos c, show sumW L + q.w + jnt q + b.ind = q.w + b.ind + sumW L + jnt q from by omega]
      rfl
    · have c := of_decide_eq_false c
      have c : ¬ i = s := by dsimp only at c; omega
      rw [if_neg c, show q.w + 0 + sumW L + jnt q = sumW L + q.w + jnt q from by omega]
      rfl
  rintro _ rfl
  array_get_dec
  rfl)
end
end
section
theorem same_iT (n : Nat) (xs : List Int) (hl : xs.length ≤ 10000) : F_l_same (n + 2) [iT xs, iT xs] = .ok (.bl true) := same_tup (n + 1) _ (by rw [List.length_map]; exact hl) fun d hd => by
  obtain ⟨x, _, rfl⟩ := List.mem_map.mp hd
  exact same_int n x
theorem WOk.cl {bs : List Bk} (h : WOk bs) {p : Pc} (hp : p ∈ pieces bs) : p.cs.length ≤ 4 := by
  refine Nat.le_trans ?_ h.f
  obtain ⟨xs, ys, e⟩ := List.append_of_mem hp
  unfold figs
  rw [e, List.flatMap_append, List.flatMap_cons, List.length_append, List.length_append]
  omega
theorem same_pc (n : Nat) (p : Pc) (h : PcOk p) (hc : p.cs.length ≤ 4) : F_l_same (n + 3) [pcD p, pcD p] = .ok (.bl true) := by
  have h1 := h.nl
  refine same_tup (n + 2) _ (show 4 ≤ 10000 by decide) fun d hd => ?_
  simp only [List.mem_cons, List.not_mem_nil, or_false] at hd
  rcases hd with rfl | rfl | rfl | rfl
  · exact same_int _ _
  · unfold tieL
    split
    · refine same_tup (n + 1) _ (show 1 ≤ 10000 by decide) fun d hd => ?_
      simp only [List.mem_cons, List.not_mem_nil, or_false] at hd
      subst hd
      exact same_str _ _
    · refine same_tup (n + 1) _ (show 2 ≤ 10000 by decide) fun d hd => ?_
      simp only [List.mem_cons, List.not_mem_nil, or_false] at hd
      rcases hd with rfl | rfl
      · exact same_str _ _
      · exact same_int _ _
  · exact same_iT _ _ (by omega)
  · exact same_iT _ _ (by omega)
theorem same_bL (n : Nat) (bs : List Bk) (h : WOk bs) : F_l_same (n + 6) [bL bs, bL bs] = .ok (.bl true) := by
  have hb := h.len
  refine same_lst (n + 5) _ (by rw [List.length_map]; omega) fun d hd => ?_
  obtain ⟨b, hb, rfl⟩ := List.mem_map.mp hd
  have hl : b.ps.length ≤ 40 := by
    refine Nat.le_trans ?_ h.p
    obtain ⟨xs, ys, e⟩ := List.append_of_mem hb
    rw [e, pieces_app, pieces_cons, List.length_append, List.length_append]
    omega
  refine same_tup (n + 4) _ (show 5 ≤ 10000 by decide) fun d hd => ?_
  simp only [List.mem_cons, List.not_mem_nil, or_false] at hd
  rcases hd with rfl | rfl | rfl | rfl | rfl
  · exact same_int _ _
  · exact same_int _ _
  · exact same_int _ _
  · exact same_bl _ _
  · refine same_tup (n + 3) _ (by rw [List.length_map]; omega) fun d hd => ?_
    obtain ⟨p, hp, rfl⟩ := List.mem_map.mp hd
    exact same_pc n p ((h.b b hb).p p hp) (h.cl (List.mem_flatMap.mpr ⟨b, hb, hp⟩))
end
section
structure S4 where
  d : Nat
  u : Int
  pl : Nat
  o : Bool
deriving DecidableEq, Inhabited
structure Mv where
  e : Nat
  m : Option Nat
  c : Int
  n : S4
deriving DecidableEq, Inhabited
def stD (s : S4) : D := .tup [.int (s.d : Int), .int s.u, .int (s.pl : Int), .bl s.o]
def oD : Option Nat → D
  | none => .non
  | some k => .int (k : Int)
def stepD (e : Nat) (m : Option Nat) : D := .tup [.int (e : Int), oD m]
def mvD (m : Mv) : D := .tup [stepD m.e m.m, .int m.c, stD m.n]
abbrev mL (ms : List Mv) : D := .lst (ms.map mvD)
def qAt (bs : List Bk) (e : Nat) : Pc := (pieces bs).getD (e - 1) default
def LW (bs : List Bk) (d e s : Nat) (b : Bk) : Int := lineW bs d e s b (qAt bs e)
def CW (n : Bn) (bs : List Bk) (d e s t : Nat) (b : Bk) : Int := costW n (LW bs d e s b) e t (qAt bs e)
def notesH (ps : List Pc) : Int := (ps.map fun p => p.ns.sum).sum
def needW (bs : List Bk) (d e s : Nat) (b : Bk) : Int := b.h + (if d = s then b.bef else 0) + notesH (((pieces bs).take e).drop d)
def called (bs : List Bk) (d : Nat) : Nat := (((pieces bs).take d).flatMap (·.cs)).length
def turnW (n : Bn) (bs : List Bk) (st : S4) (e a s t : Nat) : Int := max2 0 (n.ht - st.u) * max2 0 (n.ht - st.u) + (if st.d = s ∧ (bs.getD (a - 1) default).kp = true then n.kp else 0) + (if st.o = true then n.or else 0) + (if s < st.d ∧ e = t then n.wd else 0)
def opensB (d e s t : Nat) : Bool := decide (d = s) && decide (e < t)
def topW (bs : List Bk) (pl k : Nat) : Int := (((figs bs).take (pl + k)).drop pl).sum
def mvK (n : Bn) (bs : List Bk) (st : S4) (e a s t : Nat) (b : Bk) (k : Nat) : Mv := ⟨e, some k, (CW n bs st.d e s t b + turnW n bs st e a s t) + n.wt * ((called bs st.d : Int) - (st.pl : Int) - (k : Int)), ⟨e, topW bs st.pl k + needW bs st.d e s b, st.pl + k, opensB st.d e s t⟩⟩
def fitK (n : Bn) (bs : List Bk) (st : S4) (e s : Nat) (b : Bk) (k : Nat) : Bool := decide (k = 0) || decide (topW bs st.pl k + needW bs st.d e s b ≤ n.ht)
def movesTo (n : Bn) (bs : List Bk) (st : S4) (a s t : Nat) (b : Bk) (e : Nat) : List Mv :=
  if st.d = 0 then [⟨e, some 0, CW n bs st.d e s t b, ⟨e, needW bs st.d e s b, 0, opensB st.d e s t⟩⟩]
  else (if st.u + needW bs st.d e s b ≤ n.ht then [⟨e, none, CW n bs st.d e s t b, ⟨e, st.u + needW bs st.d e s b, st.pl, opensB st.d e s t⟩⟩] else [])
    ++ ((List.range (called bs st.d - st.pl + 1)).filter (fitK n bs st e s b)).map (mvK n bs st e a s t b)
def okE (n : Bn) (bs : List Bk) (d s : Nat) (b : Bk) (e : Nat) : Bool := decide (e = d + 1) || decide (LW bs d e s b ≤ n.rm)
def endsL (n : Bn) (bs : List Bk) (d s t : Nat) (b : Bk) : List Nat := (List.range' (d + 1) (t - d)).filter (okE n bs d s b)
/-- the moves of a state that is not final -/
def movesAt (n : Bn) (bs : List Bk) (st : S4) (a s t : Nat) (b : Bk) : List Mv := (endsL n bs st.d s t b).flatMap (movesTo n bs st a s t b)
structure StOk (bs : List Bk) (st : S4) : Prop where
  d : st.d ≤ (pieces bs).length
  u : 0 ≤ st.u
  pl : st.pl ≤ called bs st.d
section
variable {bs : List Bk} {d e : Nat} {p q : Pc} {a s t : Nat} {b : Bk} {n : Bn}
theorem At.qq (h : At bs (e - 1) q a s t b) : qAt bs e = q := by
  unfold qAt
  rw [List.getD_eq_getElem?_getD, h.pp]
  rfl
theorem called_mono {i j : Nat} (h : i ≤ j) : called bs i ≤ called bs j := by
  unfold called
  rw [show j = i + (j - i) from by omega, List.take_add, List.flatMap_append, List.length_append]
  omega
theorem called_figs : called bs (pieces bs).length = (figs bs).length := by
  unfold called figs
  rw [List.take_length]
theorem called_le (i : Nat) : called bs i ≤ (figs bs).length := by
  by_cases h : i ≤ (pieces bs).length
  · rw [← called_figs]; exact called_mono h
  · unfold called figs
    rw [List.take_of_length_le (by omega)]
    exact Nat.le_refl _
theorem sum_nn {xs : List Int} (h : ∀ x ∈ xs, 0 ≤ x) : 0 ≤ xs.sum := by
  induction xs with
  | nil => simp
  | cons x xs ih =>
    have h1 := ih fun y hy => h y (List.mem_cons_of_mem _ hy)
    have h2 := h x List.mem_cons_self
    rw [List.sum_cons]
    omega
theorem notes_nn {ps : List Pc} (h : ∀ p ∈ ps, PcOk p) : 0 ≤ notesH ps := sum_nn fun x hx => by
  obtain ⟨p, hp, rfl⟩ := List.mem_map.mp hx
  exact sum_nn fun y hy => by have := (h p hp).n y hy; omega
theorem notes_app (xs ys : List Pc) : notesH (xs ++ ys) = notesH xs + notesH ys := by unfold notesH; rw [List.map_append, List.sum_append]
theorem need_nn (hw : WOk bs) (hb : b ∈ bs) : 0 ≤ needW bs d e s b := by
  have h1 := (hw.b b hb).h
  have h2 := (hw.b b hb).f
  have h3 := notes_nn (ps := ((pieces bs).take e).drop d) fun x hx => hw.pc (List.mem_of_mem_take (List.mem_of_mem_drop hx))
  unfold needW
  split <;> omega
theorem top_nn (hw : WOk bs) (pl k : Nat) : 0 ≤ topW bs pl k := sum_nn fun x hx => by
  have := List.mem_of_mem_take (List.mem_of_mem_drop hx)
  obtain ⟨p, hp, h1⟩ := List.mem_flatMap.mp this
  have := (hw.pc hp).c x h1
  omega
theorem slice_snoc {i j : Nat} {x : Pc} (hij : i ≤ j) (h : (pieces bs)[j]? = some x) : ((pieces bs).take (j + 1)).drop i = ((pieces bs).take j).drop i ++ [x] := by
  have hj : j < (pieces bs).length := (List.getElem?_eq_some_iff.mp h).1
  rw [take_snoc h, List.drop_append_of_le_length (by rw [List.length_take]; omega)]
theorem bare_step (hw : WOk bs) (h1 : At bs (e - 1) q a s t b) {x : Pc} (h2 : At bs e x a s t b) (hd : d < e) : bareW bs d e s b q ≤ bareW bs d (e + 1) s b x := by
  have hq := hw.pc (List.mem_of_getElem? h1.pp)
  have hx := hw.pc (List.mem_of_getElem? h2.pp)
  have g1 := hq.t
  have g2 := hx.w
  unfold bareW
  have e1 : ((pieces bs).take (e + 1 - 1)).drop d = ((pieces bs).take (e - 1)).drop d ++ [q] := by
    have := slice_snoc (i := d) (j := e - 1) (by omega) h1.pp
    rw [show e + 1 - 1 = e - 1 + 1 from by omega, this]
  rw [e1, sumW_app, sumW_one]
  have : q.w ≤ wbl q := by unfold wbl; split <;> omega
  omega
theorem bare_mono (hw : WOk bs) (hd : At bs d p a s t b) : ∀ (k e : Nat) (q x : Pc), d < e → At bs (e - 1) q a s t b → At bs (e + k - 1) x a s t b → bareW bs d e s b q ≤ bareW bs d (e + k) s b x
  | 0, e, q, x, h, h1, h2 => by
    have : q = x := Option.some.inj (h1.pp.symm.trans h2.pp)
    subst this
    exact Int.le_refl _
  | k + 1, e, q, x, h, h1, h2 => by
    have g1 := hd.lo
    have g2 := h2.hi
    obtain ⟨y, hy⟩ := hd.mate (j := e) (by omega) (by omega)
    have h3 := bare_step (d := d) hw h1 hy h
    have h4 := bare_mono hw hd k (e + 1) y x (by omega) hy (by rw [show e + 1 + k - 1 = e + (k + 1) - 1 from by omega]; exact h2)
    rw [show e + 1 + k = e + (k + 1) from by omega] at h4
    omega
theorem lw_bare (hw : WOk bs) (h1 : At bs (e - 1) q a s t b) : bareW bs d e s b q ≤ lineW bs d e s b q := by
  have g2 := (hw.pc (List.mem_of_getElem? h1.pp)).t
  unfold lineW jnt
  split <;> omega
theorem ends_cut {j : Nat} (hj : j ≤ t - d) (h : ∀ e, d + 1 + j ≤ e → e ≤ t → okE n bs d s b e = false) : endsL n bs d s t b = (List.range' (d + 1) j).filter (okE n bs d s b) := by
  unfold endsL
  rw [show t - d = j + (t - d - j) from by omega, ← List.range'_append_1, List.filter_append]
  have : (List.range' (d + 1 + j) (t - d - j)).filter (okE n bs d s b) = [] := List.filter_eq_nil_iff.mpr fun e he => by
    have := List.mem_range'_1.mp he
    rw [h e (by omega) (by omega)]
    exact Bool.false_ne_true
  rw [this, List.append_nil]
/-- a bare width above the room: no greater end -/
theorem ends_break (hw : WOk bs) (hd : At bs d p a s t b) (h2 : d + 2 ≤ e) (h1 : At bs (e - 1) q a s t b) (hb : n.rm < bareW bs d e s b q) : endsL n bs d s t b = (List.range' (d + 1) (e - d - 1)).filter (okE n bs d s b) := by
  have hlo := hd.lo
  refine ends_cut (by have := h1.hi; omega) fun e' g1 g2 => ?_
  obtain ⟨x, hx⟩ := hd.mate (j := e' - 1) (by omega) (by omega)
  have m1 := bare_mono hw hd (e' - e) e q x (by omega) h1 (by rw [show e + (e' - e) - 1 = e' - 1 from by omega]; exact hx)
  rw [show e + (e' - e) = e' from by omega] at m1
  have m2 := lw_bare (d := d) hw hx
  unfold okE LW
  rw [hx.qq, decide_eq_false (by omega), decide_eq_false (by omega)]
  rfl
theorem range'_snoc (a j : Nat) : List.range' a (j + 1) = List.range' a j ++ [a + j] := by
  rw [List.range'_1_concat]
theorem filter_snoc {α : Type} (f : α → Bool) (xs : List α) (x : α) : (xs ++ [x]).filter f = xs.filter f ++ (if f x = true then [x] else []) := by
  rw [List.filter_append]
  cases h : f x <;> simp [h]
end
end
section
theorem rs_figs {bs : List Bk} {f : Rho → Res D} {r : Rho} {Q : D → Prop} {E : Str → List Str → List D → Prop} (h : Rs (f r) (fun x => x = galD bs) E) (q : Q (iL (figs bs))) : Rs (dProp "Galley" F_Galley_figures f r) Q E := rs_prop (h.impE (fun x e => by
  subst e
  refine ⟨isG bs, iL (figs bs), Rs.eq ?_, q⟩
  refine rs_run ?_
  unfold Fb_Galley_figures
  array_get_dec
  refine rs_fld (d := iL (figs bs)) rfl ?_
  array_get_dec
  rfl) fun _ _ _ z => z)
theorem rs_lenG {bs : List Bk} (hw : WOk bs) {Q : D → Prop} {E : Str → List Str → List D → Prop} (q : Q (.int ((pieces bs).length : Int))) : Rs (g1 (lenO "Galley" F_Galley_len) [galD bs]) Q E := rs_lenO (glen bs) (by have := hw.p; omega) q
section
variable {bs : List Bk} {d e : Nat} {p q : Pc} {a s t : Nat} {b : Bk} {n : Bn}
theorem ends_eq (hw : WOk bs) (h : At bs d p a s t b) : F_line_ends [galD bs, bookD n, .int (d : Int)] = .ok (.lst ((endsL n bs d s t b).map fun e : Nat => D.int (e : Int))) := Rs.eq (by
  have hlo := h.lo
  have hhi := h.hi
  have hle := h.le
  have hp := hw.p
  refine rs_runT ?_
  unfold Fb_line_ends
  show Ss (seqF _ _ [some (galD bs), some (bookD n), some (.int (d : Int)), none, none]) _ _ _ _ _
  have hok1 : okE n bs d s b (d + 1) = true := by unfold okE; rw [decide_eq_true rfl]; rfl
  refine ss_seq (ss_cut (fun z => z = [some (galD bs), some (bookD n), some (.int (d : Int)), some (.lst (((List.range' (d + 1) 1).filter (okE n bs d s b)).map fun e : Nat => D.int (e : Int))), none]) ?_ ?_)
  · array_get_dec
    rw [show List.range' (d + 1) 1 = [d + 1] from rfl, List.filter_cons, if_pos hok1]
    rfl
  rintro _ rfl
  refine ss_seq (ss_cut (fun z => ∃ x4, z = [some (galD bs), some (bookD n), some (.int (d : Int)), some (.lst ((endsL n bs d s t b).map fun e : Nat => D.int (e : Int))), x4]) ?_ ?_)
  · refine ss_rng2 (d + 2) (t + 1) (fun j z => ∃ x4, z = [some (galD bs), some (bookD n), some (.int (d : Int)), some (.lst (((List.range' (d + 1) (1 + j)).filter (okE n bs d s b)).map fun e : Nat => D.int (e : Int))), x4]) ?_ ?_ (by omega) (by omega) ⟨none, rfl⟩ ?_ ?_
    · array_get_dec
      rfl
    · refine rs_op (rs_op (rs_blk h (rs_var rfl rfl) (rs_var rfl rfl) (rs_c (rs_sp2 (rs_c (rs_add ?_))))))
      rfl
    · rintro j z hj ⟨x4, rfl⟩
      obtain ⟨x, hx⟩ := h.mate (j := d + 2 + j - 1) (by omega) (by omega)
      have hlen : ((List.range' (d + 1) (1 + j)).filter (okE n bs d s b)).length < 100000 := Nat.lt_of_le_of_lt (List.length_filter_le _ _) (by rw [List.length_range']; omega)
      unfold Lp_line_ends_1
      show Ss (seqF _ _ [some (galD bs), some (bookD n), some (.int (d : Int)), some (.lst (((List.range' (d + 1) (1 + j)).filter (okE n bs d s b)).map fun e : Nat => D.int (e : Int))), some (.int ((d + 2 + j : Nat) : Int))]) _ _ _ _ _
      refine ss_seq ?_
      array_get_dec
      refine Rs.of (bare_eq hw h (by omega) hx) ?_
      array_get_dec
      refine rs_rm ?_
      array_get_dec
      refine ⟨fun c => ?_, fun c => ?_⟩
      · have c := of_decide_eq_true c
        array_get_dec
        rw [ends_break hw h (by omega) hx c, show d + 2 + j - d - 1 = 1 + j from by omega]
        exact ⟨_, rfl⟩
      · array_get_dec
        refine Rs.of (linew_eq hw h (by omega) hx) ?_
        array_get_dec
        refine rs_rm ?_
        array_get_dec
        rw [show 1 + (j + 1) = (1 + j) + 1 from by omega, range'_snoc, filter_snoc, show d + 1 + (1 + j) = d + 2 + j from by omega]
        have ho : okE n bs d s b (d + 2 + j) = decide (lineW bs d (d + 2 + j) s b x ≤ n.rm) := by
          unfold okE LW
          rw [hx.qq, decide_eq_false (show ¬ d + 2 + j = d + 1 by omega)]
          rfl
        refine ⟨fun c => ?_, fun c => ?_⟩
        · rw [ho, c, if_pos rfl, List.map_append]
          refine ss_app rfl ?_
          array_get_dec
          exact ⟨_, rfl⟩
        · rw [ho, c, if_neg Bool.false_ne_true, List.append_nil]
          exact ⟨_, rfl⟩
    · rintro z ⟨x4, rfl⟩
      unfold endsL
      rw [show 1 + (t + 1 - (d + 2)) = t - d from by omega]
      exact ⟨_, rfl⟩
  rintro _ ⟨x4, rfl⟩
  array_get_dec
  rfl)
theorem need_eq (hw : WOk bs) (h : At bs d p a s t b) : F_line_need [galD bs, .int (d : Int), .int (e : Int)] = .ok (.int (needW bs d e s b)) := Rs.eq (by
  refine rs_run ?_
  unfold Fb_line_need
  show Ss (seqF _ _ [some (galD bs), some (.int (d : Int)), some (.int (e : Int)), none, none, none, none]) _ _ _ _ _
  refine ss_seq (ss_cut (fun z => z = [some (galD bs), some (.int (d : Int)), some (.int (e : Int)), some (spnD (p, a, s, t)), none, none, none]) ?_ ?_)
  · exact ss_set (rs_blk h (rs_var rfl rfl) (rs_var rfl rfl) rfl)
  rintro _ rfl
  refine ss_seq (ss_cut (fun z => z = [some (galD bs), some (.int (d : Int)), some (.int (e : Int)), some (spnD (p, a, s, t)), some (bkD b), none, none]) ?_ ?_)
  · array_get_dec
    refine rs_listG hw ?_
    array_get_dec
    refine rs_sp0 ?_
    exact rs_ixL (d := bkD b) (atI_nat (by rw [List.getElem?_map, h.bb]; rfl)) rfl
  rintro _ rfl
  refine ss_seq (ss_cut (fun z => z = [some (galD bs), some (.int (d : Int)), some (.int (e : Int)), some (spnD (p, a, s, t)), some (bkD b), some (.int b.h), none]) ?_ ?_)
  · array_get_dec
    refine rs_bk0 ?_
    rfl
  rintro _ rfl
  refine ss_seq (ss_cut (fun z => z = [some (galD bs), some (.int (d : Int)), some (.int (e : Int)), some (spnD (p, a, s, t)), some (bkD b), some (.int (b.h + if d = s then b.bef else 0)), none]) ?_ ?_)
  · array_get_dec
    refine rs_sp1 ?_
    array_get_dec
    refine ⟨fun c => ?_, fun c => ?_⟩
    · have c := of_decide_eq_true c
      have c : d = s := by dsimp only at c; omega
      array_get_dec
      refine rs_bk2 ?_
      array_get_dec
      rw [if_pos c]
      rfl
    · have c := of_decide_eq_false c
      have c : ¬ d = s := by dsimp only at c; omega
      rw [if_neg c, Int.add_zero]
      rfl
  rintro _ rfl
  refine ss_seq (ss_cut (fun z => ∃ x6, z = [some (galD bs), some (.int (d : Int)), some (.int (e : Int)), some (spnD (p, a, s, t)), some (bkD b), some (.int (needW bs d e s b)), x6]) ?_ ?_)
  · unfold needW
    generalize (b.h + if d = s then b.bef else 0) = W0
    refine ss_each pcD (((pieces bs).take e).drop d) (fun j z => ∃ x6, z = [some (galD bs), some (.int (d : Int)), some (.int (e : Int)), some (spnD (p, a, s, t)), some (bkD b), some (.int (W0 + notesH ((((pieces bs).take e).drop d).take j))), x6]) ?_ ⟨none, ?_⟩ ?_ ?_
    · refine rs_sl (rs_pcs (rs_var rfl rfl) ?_)
      array_get_dec
      rw [cut_mid, ← List.map_take, ← List.map_drop]
    · rw [List.take_zero, show notesH [] = 0 from rfl, Int.add_zero]
    · rintro j x z hj ⟨x6, rfl⟩
      rw [take_snoc hj, notes_app, ← Int.add_assoc, show notesH [x] = x.ns.sum from by unfold notesH; simp]
      unfold Lp_line_need_1
      array_get_dec
      refine rs_pc2 ?_
      array_get_dec
      unfold iT
      refine rs_sumT ?_
      array_get_dec
      exact ⟨_, rfl⟩
    · rintro z ⟨x6, rfl⟩
      rw [List.take_length]
      exact ⟨x6, rfl⟩
  rintro _ ⟨x6, rfl⟩
  array_get_dec
  rfl)
theorem at_prev (hw : WOk bs) (h : At bs d p a d t b) (hd : 0 < d) : ∃ q s' b', At bs (d - 1) q (a - 1) s' d b' ∧ 0 < a := by
  obtain ⟨xs, ys, e1, e2, e3⟩ := h.d
  have hx : xs ≠ [] := fun z => by rw [z] at e3; simp [pieces] at e3; omega
  have hx2 := (List.dropLast_concat_getLast hx).symm
  generalize xs.dropLast = zs at hx2
  generalize xs.getLast hx = c at hx2
  have hc : BkOk c := hw.b c (by rw [e1, hx2]; simp)
  obtain ⟨qs, q, e4, _⟩ := hc.e
  have hcl : c.ps.length = qs.length + 1 := by rw [e4, List.length_append]; rfl
  have hpl : (pieces xs).length = (pieces zs).length + c.ps.length := by
    rw [hx2, pieces_app, pieces_cons, List.length_append, List.length_append]
    simp [pieces]
  have hxl : xs.length = zs.length + 1 := by rw [hx2, List.length_append]; rfl
  refine ⟨q, (pieces zs).length, c, ⟨⟨zs, b :: ys, by rw [e1, hx2]; simp, by omega, rfl⟩, by omega, by omega, by omega, ?_⟩, by omega⟩
  rw [e4, show d - 1 - (pieces zs).length = qs.length from by omega, List.getElem?_append_right (Nat.le_refl _), Nat.sub_self]
  rfl
theorem turn_eq {st : S4} (hw : WOk bs) (hn : BnOk n) (h : At bs st.d p a s t b) (hd : 0 < st.d) (hu : 0 ≤ st.u) : F_turn_cost [galD bs, bookD n, stD st, .int (e : Int)] = .ok (.int (turnW n bs st e a s t)) := Rs.eq (by
  have hht := hn.ht
  refine rs_run ?_
  unfold Fb_turn_cost
  obtain ⟨d, u, pl, o⟩ := st
  dsimp only at h hd hu
  show Ss (seqF _ _ [some (galD bs), some (bookD n), some (stD ⟨d, u, pl, o⟩), some (.int (e : Int)), none, none, none, none, none, none, none, none, none]) _ _ _ _ _
  refine ss_seq (ss_cut (fun z => z = [some (galD bs), some (bookD n), some (stD ⟨d, u, pl, o⟩), some (.int (e : Int)), some (.int (d : Int)), some (.int u), some (.int (pl : Int)), some (.bl o), none, none, none, none, none]) ?_ ?_)
  · exact ss_asg (rs_var rfl ⟨_, rfl, rfl⟩)
  rintro _ rfl
  refine ss_seq (ss_cut (fun z => z = [some (galD bs), some (bookD n), some (stD ⟨d, u, pl, o⟩), some (.int (e : Int)), some (.int (d : Int)), some (.int u), some (.int (pl : Int)), some (.bl o), some (.int (a : Int)), some (.int (s : Int)), some (.int (t : Int)), none, none]) ?_ ?_)
  · exact ss_asg (rs_blk h (rs_var rfl rfl) (rs_var rfl rfl) ⟨_, rfl, rfl⟩)
  rintro _ rfl
  obtain ⟨fr, hfr⟩ : ∃ fr, max2 0 (n.ht - u) = fr := ⟨_, rfl⟩
  have hfb : 0 ≤ fr ∧ fr ≤ 2000 := by unfold max2 at hfr; omega
  refine ss_seq (ss_cut (fun z => z = [some (galD bs), some (bookD n), some (stD ⟨d, u, pl, o⟩), some (.int (e : Int)), some (.int (d : Int)), some (.int u), some (.int (pl : Int)), some (.bl o), some (.int (a : Int)), some (.int (s : Int)), some (.int (t : Int)), some (.int fr), none]) ?_ ?_)
  · array_get_dec
    refine rs_ht ?_
    array_get_dec
    rw [hfr]
    rfl
  rintro _ rfl
  refine ss_seq (ss_cut (fun z => z = [some (galD bs), some (bookD n), some (stD ⟨d, u, pl, o⟩), some (.int (e : Int)), some (.int (d : Int)), some (.int u), some (.int (pl : Int)), some (.bl o), some (.int (a : Int)), some (.int (s : Int)), some (.int (t : Int)), some (.int fr), some (.int (fr * fr))]) ?_ ?_)
  · array_get_dec
    rfl
  rintro _ rfl
  refine ss_seq (ss_cut (fun z => z = [some (galD bs), some (bookD n), some (stD ⟨d, u, pl, o⟩), some (.int (e : Int)), some (.int (d : Int)), some (.int u), some (.int (pl : Int)), some (.bl o), some (.int (a : Int)), some (.int (s : Int)), some (.int (t : Int)), some (.int fr), some (.int (fr * fr + if d = s ∧ (bs.getD (a - 1) default).kp = true then n.kp else 0))]) ?_ ?_)
  · refine ss_if (rs_andc (rs_T (rs_op (rs_var rfl (rs_var rfl (rs_eqI (rs_asB ?_)))))))
    refine ⟨fun c => ?_, fun c => ?_⟩
    · have c := of_decide_eq_true c
      have c : d = s := by omega
      subst c
      obtain ⟨q, s', b', hq, ha⟩ := at_prev hw h hd
      have hg : bs.getD (a - 1) default = b' := by rw [List.getD_eq_getElem?_getD, hq.bb]; rfl
      array_get_dec
      refine rs_listG hw ?_
      array_get_dec
      refine rs_ixL (d := bkD b') ?_ ?_
      · rw [show (a : Int) - 1 = ((a - 1 : Nat) : Int) from by omega]
        exact atI_nat (by rw [List.getElem?_map, hq.bb]; rfl)
      array_get_dec
      refine rs_bk3 ?_
      array_get_dec
      rw [hg]
      refine ⟨fun c => ?_, fun c => ?_⟩
      · array_get_dec
        refine rs_kp ?_
        array_get_dec
        rw [if_pos ⟨rfl, c⟩]
        rfl
      · rw [if_neg (fun z => by rw [z.2] at c; cases c), Int.add_zero]
        rfl
    · have c := of_decide_eq_false c
      refine ⟨fun z => (by cases z), fun _ => ?_⟩
      rw [if_neg fun z => c (by omega), Int.add_zero]
      rfl
  rintro _ rfl
  unfold turnW
  rw [hfr]
  generalize (fr * fr + if d = s ∧ (bs.getD (a - 1) default).kp = true then n.kp else 0) = C1
  refine ss_seq (ss_cut (fun z => z = [some (galD bs), some (bookD n), some (stD ⟨d, u, pl, o⟩), some (.int (e : Int)), some (.int (d : Int)), some (.int u), some (.int (pl : Int)), some (.bl o), some (.int (a : Int)), some (.int (s : Int)), some (.int (t : Int)), some (.int fr), some (.int (C1 + if o = true then n.or else 0))]) ?_ ?_)
  · array_get_dec
    refine ⟨fun c => ?_, fun c => ?_⟩
    · array_get_dec
      refine rs_orp ?_
      array_get_dec
      rw [if_pos c]
      rfl
    · rw [c, if_neg Bool.false_ne_true, Int.add_zero]
      rfl
  rintro _ rfl
  generalize (C1 + if o = true then n.or else 0) = C2
  refine ss_seq (ss_cut (fun z => z = [some (galD bs), some (bookD n), some (stD ⟨d, u, pl, o⟩), some (.int (e : Int)), some (.int (d : Int)), some (.int u), some (.int (pl : Int)), some (.bl o), some (.int (a : Int)), some (.int (s : Int)), some (.int (t : Int)), some (.int fr), some (.int (C2 + if s < d ∧ e = t then n.wd else 0))]) ?_ ?_)
  · array_get_dec
    refine ⟨fun c => ?_, fun c => ?_⟩
    · rw [Bool.and_eq_true] at c
      have c1 := of_decide_eq_true c.1
      have c2 := of_decide_eq_true c.2
      array_get_dec
      refine rs_wdw ?_
      array_get_dec
      rw [if_pos ⟨by omega, by omega⟩]
      rfl
    · rw [if_neg (fun z => by rw [decide_eq_true (show (s : Int) < (d : Int) by omega), decide_eq_true (show (e : Int) = (t : Int) by omega)] at c; cases c), Int.add_zero]
      rfl
  rintro _ rfl
  array_get_dec
  rfl)
theorem sum_lens (ps : List Pc) : (ps.map fun p => ((p.cs.length : Nat) : Int)).sum = ((ps.flatMap (·.cs)).length : Int) := by
  induction ps with
  | nil => rfl
  | cons p ps ih => rw [List.map_cons, List.sum_cons, ih, List.flatMap_cons, List.length_append, Int.natCast_add]
theorem called_eq (hw : WOk bs) : F_called_ahead [galD bs, .int (d : Int)] = .ok (.int (called bs d : Int)) := Rs.eq (by
  have hp := hw.p
  refine rs_run ?_
  unfold Fb_called_ahead
  array_get_dec
  refine rs_lc pcD (fun p => D.int ((p.cs.length : Nat) : Int)) ((pieces bs).take d) ?_ ?_ ?_ ?_
  · refine rs_it (rs_sl (rs_pcs (rs_var rfl rfl) ?_))
    array_get_dec
    rw [cut_take, ← List.map_take]
  · rw [List.length_take]; exact Nat.le_trans (by omega) sz5
  · intro p _
    refine ⟨_, rfl, rfl, ?_⟩
    array_get_dec
    refine rs_pc3 ?_
    unfold iT
    array_get_dec
    rw [List.length_map]
  · rw [show ((pieces bs).take d).map (fun p => D.int ((p.cs.length : Nat) : Int)) = (((pieces bs).take d).map fun p => ((p.cs.length : Nat) : Int)).map D.int from by rw [List.map_map]; rfl]
    array_get_dec
    rw [sum_lens]
    rfl)
end
end
section
/-- the data of a state: a tuple of the heap, or (at the start) one of the text -/
def SdOk (st : S4) (sd : D) : Prop := sd = stD st ∨ (st.d = 0 ∧ sd = .kt [.int (st.d : Int), .int st.u, .int (st.pl : Int), .bl st.o])
theorem sd_tgt {st : S4} {sd : D} (h : SdOk st sd) {u : List D → Rho → Res Rho} {r r' : Rho} (hu : u [.int (st.d : Int), .int st.u, .int (st.pl : Int), .bl st.o] r = .ok r') : tgT 4 u sd r = .ok r' := by
  rcases h with rfl | ⟨_, rfl⟩ <;> exact hu
theorem rs_sdK {st : S4} {sd : D} (h : SdOk st sd) (k : Nat) {d : D} (hk : [D.int (st.d : Int), .int st.u, .int (st.pl : Int), .bl st.o][k]? = some d) {Q : D → Prop} {E : Str → List Str → List D → Prop} (q : Q d) : Rs (ixD sd (.int (k : Int))) Q E := by
  rcases h with rfl | ⟨_, rfl⟩
  · exact rs_ixc k hk q
  · show Rs (match atI [D.int (st.d : Int), .int st.u, .int (st.pl : Int), .bl st.o] (k : Int) with | some d => Res.ok d | none => Res.bad) Q E
    rw [atI_nat hk]; exact q
section
variable {bs : List Bk} {e : Nat} {p q : Pc} {a s t : Nat} {b : Bk} {n : Bn} {st : S4} {sd : D}
theorem movesTo_len (n : Bn) (bs : List Bk) (st : S4) (a s t : Nat) (b : Bk) (e : Nat) : (movesTo n bs st a s t b e).length ≤ called bs st.d + 3 := by
  unfold movesTo
  split
  · simp
  · rw [List.length_append, List.length_map]
    have h1 := List.length_filter_le (fitK n bs st e s b) (List.range (called bs st.d - st.pl + 1))
    rw [List.length_range] at h1
    split
    · simp only [List.length_cons, List.length_nil]; omega
    · simp only [List.length_nil]; omega
theorem opens_eq (hd : st.d = s ↔ (st.d : Int) = (s : Int)) (he : e < t ↔ (e : Int) < (t : Int)) : (decide ((st.d : Int) = (s : Int)) && decide ((e : Int) < (t : Int))) = opensB st.d e s t := by
  unfold opensB
  rw [decide_eq_decide.mpr hd.symm, decide_eq_decide.mpr he.symm]
theorem top_cut (ns : List Int) (pl k : Nat) : cutL (ns.map D.int) (some (pl : Int)) (some ((pl : Int) + (k : Int))) = (((ns.take (pl + k)).drop pl)).map D.int := by
  rw [show (pl : Int) + (k : Int) = ((pl + k : Nat) : Int) from by omega, cut_mid, ← List.map_take, ← List.map_drop]
theorem moves_to_eq (hw : WOk bs) (hn : BnOk n) (hs : StOk bs st) (h : At bs st.d p a s t b) (h1 : st.d < e) (h2 : At bs (e - 1) q a s t b) (hsd : SdOk st sd) : F_moves_to [galD bs, bookD n, sd, .int (e : Int)] = .ok (mL (movesTo n bs st a s t b e)) := Rs.eq (by
  have hht := hn.ht
  have hwt := hn.wt
  have hu := hs.u
  have hpl := hs.pl
  have hcl := called_le (bs := bs) st.d
  have hf := hw.f
  refine rs_runT ?_
  unfold Fb_moves_to
  show Ss (seqF _ _ [some (galD bs), some (bookD n), some sd, some (.int (e : Int)), none, none, none, none, none, none, none, none, none, none, none, none, none]) _ _ _ _ _
  refine ss_seq (ss_cut (fun z => z = [some (galD bs), some (bookD n), some sd, some (.int (e : Int)), some (.int (st.d : Int)), some (.int st.u), some (.int (st.pl : Int)), some (.bl st.o), none, none, none, none, none, none, none, none, none]) ?_ ?_)
  · exact ss_asg (rs_var rfl ⟨_, sd_tgt hsd rfl, rfl⟩)
  rintro _ rfl
  refine ss_seq (ss_cut (fun z => z = [some (galD bs), some (bookD n), some sd, some (.int (e : Int)), some (.int (st.d : Int)), some (.int st.u), some (.int (st.pl : Int)), some (.bl st.o), some (spnD (p, a, s, t)), none, none, none, none, none, none, none, none]) ?_ ?_)
  · exact ss_set (rs_blk h (rs_var rfl rfl) (rs_var rfl rfl) rfl)
  rintro _ rfl
  refine ss_seq (ss_cut (fun z => z = [some (galD bs), some (bookD n), some sd, some (.int (e : Int)), some (.int (st.d : Int)), some (.int st.u), some (.int (st.pl : Int)), some (.bl st.o), some (spnD (p, a, s, t)), some (.int (needW bs st.d e s b)), none, none, none, none, none, none, none]) ?_ ?_)
  · array_get_dec
    exact Rs.of (need_eq hw h) rfl
  rintro _ rfl
  refine ss_seq (ss_cut (fun z => z = [some (galD bs), some (bookD n), some sd, some (.int (e : Int)), some (.int (st.d : Int)), some (.int st.u), some (.int (st.pl : Int)), some (.bl st.o), some (spnD (p, a, s, t)), some (.int (needW bs st.d e s b)), some (.int (CW n bs st.d e s t b)), none, none, none, none, none, none]) ?_ ?_)
  · array_get_dec
    refine Rs.of (cost_eq hw hn h h1 h2) ?_
    unfold CW LW
    rw [h2.qq]
    rfl
  rintro _ rfl
  refine ss_seq (ss_cut (fun z => z = [some (galD bs), some (bookD n), some sd, some (.int (e : Int)), some (.int (st.d : Int)), some (.int st.u), some (.int (st.pl : Int)), some (.bl st.o), some (spnD (p, a, s, t)), some (.int (needW bs st.d e s b)), some (.int (CW n bs st.d e s t b)), some (.bl (opensB st.d e s t)), none, none, none, none, none]) ?_ ?_)
  · array_get_dec
    refine rs_sp1 ?_
    array_get_dec
    refine rs_sp2 ?_
    array_get_dec
    rw [opens_eq (by omega) (by omega)]
    rfl
  rintro _ rfl
  obtain ⟨N, hN⟩ : ∃ N, needW bs st.d e s b = N := ⟨_, rfl⟩
  obtain ⟨C, hC⟩ : ∃ C, CW n bs st.d e s t b = C := ⟨_, rfl⟩
  obtain ⟨O, hO⟩ : ∃ O, opensB st.d e s t = O := ⟨_, rfl⟩
  by_cases hz : st.d = 0
  · refine ss_seq ?_
    array_get_dec
    refine ⟨fun _ => ?_, fun c => absurd (of_decide_eq_false c) (by omega)⟩
    array_get_dec
    unfold movesTo
    rw [if_pos hz, hN, hC, hO]
    rfl
  refine ss_seq (ss_cut (fun z => z = [some (galD bs), some (bookD n), some sd, some (.int (e : Int)), some (.int (st.d : Int)), some (.int st.u), some (.int (st.pl : Int)), some (.bl st.o), some (spnD (p, a, s, t)), some (.int N), some (.int C), some (.bl O), none, none, none, none, none]) ?_ ?_)
  · rw [hN, hC, hO]
    array_get_dec
    exact ⟨fun c => absurd (of_decide_eq_true c) (by omega), fun _ => rfl⟩
  rintro _ rfl
  refine ss_seq (ss_cut (fun z => z = [some (galD bs), some (bookD n), some sd, some (.int (e : Int)), some (.int (st.d : Int)), some (.int st.u), some (.int (st.pl : Int)), some (.bl st.o), some (spnD (p, a, s, t)), some (.int N), some (.int C), some (.bl O), some (.lst []), none, none, none, none]) ?_ ?_)
  · array_get_dec
    rfl
  rintro _ rfl
  refine ss_seq (ss_cut (fun z => z = [some (galD bs), some (bookD n), some sd, some (.int (e : Int)), some (.int (st.d : Int)), some (.int st.u), some (.int (st.pl : Int)), some (.bl st.o), some (spnD (p, a, s, t)), some (.int N), some (.int C), some (.bl O), some (mL (if st.u + N ≤ n.ht then [⟨e, none, C, ⟨e, st.u + N, st.pl, O⟩⟩] else [])), none, none, none, none]) ?_ ?_)
  · array_get_dec
    refine rs_ht ?_
    array_get_dec
    refine ⟨fun c => ?_, fun c => ?_⟩
    · have c := of_decide_eq_true c
      rw [if_pos c]
      refine ss_app rfl ?_
      array_get_dec
      rfl
    · have c := of_decide_eq_false c
      rw [if_neg c]
      rfl
  rintro _ rfl
  obtain ⟨M0, hM⟩ : ∃ M0 : List Mv, (if st.u + N ≤ n.ht then [⟨e, none, C, ⟨e, st.u + N, st.pl, O⟩⟩] else []) = M0 := ⟨_, rfl⟩
  have hM1 : M0.length ≤ 1 := by rw [← hM]; split <;> simp
  rw [hM]
  refine ss_seq (ss_cut (fun z => z = [some (galD bs), some (bookD n), some sd, some (.int (e : Int)), some (.int (st.d : Int)), some (.int st.u), some (.int (st.pl : Int)), some (.bl st.o), some (spnD (p, a, s, t)), some (.int N), some (.int (C + turnW n bs st e a s t)), some (.bl O), some (mL M0), none, none, none, none]) ?_ ?_)
  · obtain rfl : sd = stD st := hsd.resolve_right fun z => hz z.1
    array_get_dec
    refine Rs.of (turn_eq hw hn h (by omega) hu) ?_
    array_get_dec
    rfl
  rintro _ rfl
  refine ss_seq (ss_cut (fun z => z = [some (galD bs), some (bookD n), some sd, some (.int (e : Int)), some (.int (st.d : Int)), some (.int st.u), some (.int (st.pl : Int)), some (.bl st.o), some (spnD (p, a, s, t)), some (.int N), some (.int (C + turnW n bs st e a s t)), some (.bl O), some (mL M0), some (.int ((called bs st.d : Int) - (st.pl : Int))), none, none, none]) ?_ ?_)
  · array_get_dec
    refine Rs.of (called_eq hw) ?_
    array_get_dec
    rfl
  rintro _ rfl
  refine ss_seq (ss_cut (fun z => ∃ x14 x15 x16, z = [some (galD bs), some (bookD n), some sd, some (.int (e : Int)), some (.int (st.d : Int)), some (.int st.u), some (.int (st.pl : Int)), some (.bl st.o), some (spnD (p, a, s, t)), some (.int N), some (.int (C + turnW n bs st e a s t)), some (.bl O), some (mL (movesTo n bs st a s t b e)), some (.int ((called bs st.d : Int) - (st.pl : Int))), x14, x15, x16]) ?_ ?_)
  · refine ss_rng (called bs st.d - st.pl + 1) (fun k z => ∃ x14 x15 x16, z = [some (galD bs), some (bookD n), some sd, some (.int (e : Int)), some (.int (st.d : Int)), some (.int st.u), some (.int (st.pl : Int)), some (.bl st.o), some (spnD (p, a, s, t)), some (.int N), some (.int (C + turnW n bs st e a s t)), some (.bl O), some (mL (M0 ++ ((List.range k).filter (fitK n bs st e s b)).map (mvK n bs st e a s t b))), some (.int ((called bs st.d : Int) - (st.pl : Int))), x14, x15, x16]) ?_ (by omega) ⟨none, none, none, ?_⟩ ?_ ?_
    · array_get_dec
      rw [show (called bs st.d : Int) - (st.pl : Int) + 1 = ((called bs st.d - st.pl + 1 : Nat) : Int) from by omega]
    · simp
    · rintro k z hk ⟨x14, x15, x16, rfl⟩
      have hlen : (M0 ++ ((List.range k).filter (fitK n bs st e s b)).map (mvK n bs st e a s t b)).length < 100000 := by
        have h1 := List.length_filter_le (fitK n bs st e s b) (List.range k)
        rw [List.length_range] at h1
        rw [List.length_append, List.length_map]
        omega
      unfold Lp_moves_to_1
      show Ss (seqF _ _ [some (galD bs), some (bookD n), some sd, some (.int (e : Int)), some (.int (st.d : Int)), some (.int st.u), some (.int (st.pl : Int)), some (.bl st.o), some (spnD (p, a, s, t)), some (.int N), some (.int (C + turnW n bs st e a s t)), some (.bl O), some (mL (M0 ++ ((List.range k).filter (fitK n bs st e s b)).map (mvK n bs st e a s t b))), some (.int ((called bs st.d : Int) - (st.pl : Int))), some (.int (k : Int)), x15, x16]) _ _ _ _ _
      rw [List.range_succ, filter_snoc, List.map_append, ← List.append_assoc]
      generalize (M0 ++ ((List.range k).filter (fitK n bs st e s b)).map (mvK n bs st e a s t b)) = M1 at hlen
      refine ss_seq (ss_cut (fun z => z = [some (galD bs), some (bookD n), some sd, some (.int (e : Int)), some (.int (st.d : Int)), some (.int st.u), some (.int (st.pl : Int)), some (.bl st.o), some (spnD (p, a, s, t)), some (.int N), some (.int (C + turnW n bs st e a s t)), some (.bl O), some (mL M1), some (.int ((called bs st.d : Int) - (st.pl : Int))), some (.int (k : Int)), some (.int (topW bs st.pl k)), x16]) ?_ ?_)
      · refine ss_set (rs_call (rs_cons (rs_sl (rs_figs (rs_var rfl rfl) ?_))))
        array_get_dec
        rw [top_cut]
        array_get_dec
        rfl
      rintro _ rfl
      have hfit : fitK n bs st e s b k = (decide ((k : Int) = 0) || decide (topW bs st.pl k + N ≤ n.ht)) := by
        unfold fitK
        rw [hN, decide_eq_decide.mpr (show k = 0 ↔ (k : Int) = 0 by omega)]
      have hmv : mvK n bs st e a s t b k = ⟨e, some k, (C + turnW n bs st e a s t) + n.wt * ((called bs st.d : Int) - (st.pl : Int) - (k : Int)), ⟨e, topW bs st.pl k + N, st.pl + k, O⟩⟩ := by
        unfold mvK
        rw [hN, hC, hO]
      array_get_dec
      refine rs_ht ?_
      array_get_dec
      rw [hfit]
      refine ⟨fun c => ?_, fun c => ?_⟩
      · rw [c, if_pos rfl]
        refine ss_seq (ss_cut (fun z => z = [some (galD bs), some (bookD n), some sd, some (.int (e : Int)), some (.int (st.d : Int)), some (.int st.u), some (.int (st.pl : Int)), some (.bl st.o), some (spnD (p, a, s, t)), some (.int N), some (.int (C + turnW n bs st e a s t)), some (.bl O), some (mL M1), some (.int ((called bs st.d : Int) - (st.pl : Int))), some (.int (k : Int)), some (.int (topW bs st.pl k)), some (.int (n.wt * ((called bs st.d : Int) - (st.pl : Int) - (k : Int))))]) ?_ ?_)
        · array_get_dec
          refine rs_wt ?_
          array_get_dec
          rfl
        rintro _ rfl
        have e1 : mL (M1 ++ [k].map (mvK n bs st e a s t b)) = .lst (M1.map mvD ++ [mvD ⟨e, some k, (C + turnW n bs st e a s t) + n.wt * ((called bs st.d : Int) - (st.pl : Int) - (k : Int)), ⟨e, topW bs st.pl k + N, st.pl + k, O⟩⟩]) := by
          rw [mL, List.map_append, List.map_cons, List.map_nil, List.map_cons, List.map_nil, hmv]
        rw [e1]
        refine ss_app (ds := M1.map mvD) rfl ?_
        array_get_dec
        exact ⟨_, _, _, rfl⟩
      · rw [c, if_neg Bool.false_ne_true, List.map_nil, List.append_nil]
        exact ⟨_, _, _, rfl⟩
    · rintro z ⟨x14, x15, x16, rfl⟩
      refine ⟨x14, x15, x16, ?_⟩
      unfold movesTo
      rw [if_neg hz, hN, hC, hO, hM]
  rintro _ ⟨x14, x15, x16, rfl⟩
  array_get_dec
  rfl)
theorem moves_len (n : Bn) (bs : List Bk) (hw : WOk bs) (st : S4) (a s t : Nat) (b : Bk) (es : List Nat) (h : es.length ≤ 40) : (es.flatMap (movesTo n bs st a s t b)).length ≤ 1000 := by
  have : ∀ xs : List Nat, (xs.flatMap (movesTo n bs st a s t b)).length ≤ 7 * xs.length := fun xs => by
    induction xs with
    | nil => simp
    | cons x xs ih =>
      rw [List.flatMap_cons, List.length_append, List.length_cons]
      have h1 := movesTo_len n bs st a s t b x
      have h2 := called_le (bs := bs) st.d
      have h3 := hw.f
      omega
  have := this es
  omega
theorem ends_len (hw : WOk bs) {d : Nat} (h : At bs d p a s t b) : (endsL n bs d s t b).length ≤ 40 := by
  have h1 := List.length_filter_le (okE n bs d s b) (List.range' (d + 1) (t - d))
  rw [List.length_range'] at h1
  have := h.le
  have := hw.p
  unfold endsL
  omega
theorem ends_mem {d : Nat} (h : At bs d p a s t b) {e : Nat} (he : e ∈ endsL n bs d s t b) : d < e ∧ ∃ q, At bs (e - 1) q a s t b := by
  have := List.mem_range'_1.mp (List.mem_filter.mp he).1
  have := h.lo
  exact ⟨by omega, h.mate (by omega) (by omega)⟩
theorem moves_eq (hw : WOk bs) (hn : BnOk n) (hs : StOk bs st) (h : At bs st.d p a s t b) (hsd : SdOk st sd) : F_moves_of [galD bs, bookD n, sd] = .ok (mL (movesAt n bs st a s t b)) := Rs.eq (by
  have hlt : st.d < (pieces bs).length := by have := h.hi; have := h.le; omega
  refine rs_runT ?_
  unfold Fb_moves_of
  show Ss (seqF _ _ [some (galD bs), some (bookD n), some sd, none, none, none]) _ _ _ _ _
  refine ss_seq (ss_cut (fun z => z = [some (galD bs), some (bookD n), some sd, some (.int (st.d : Int)), none, none]) ?_ ?_)
  · refine ss_set (rs_op (rs_var rfl (rs_c ?_)))
    exact rs_sdK hsd 0 rfl rfl
  rintro _ rfl
  refine ss_seq (ss_cut (fun z => z = [some (galD bs), some (bookD n), some sd, some (.int (st.d : Int)), none, none]) ?_ ?_)
  · array_get_dec
    refine rs_lenG hw ?_
    array_get_dec
    exact ⟨fun c => absurd (of_decide_eq_true c) (by omega), fun _ => rfl⟩
  rintro _ rfl
  refine ss_seq (ss_cut (fun z => z = [some (galD bs), some (bookD n), some sd, some (.int (st.d : Int)), some (mL []), none]) ?_ ?_)
  · array_get_dec
    rfl
  rintro _ rfl
  have hel := ends_len (n := n) hw h
  refine ss_seq (ss_cut (fun z => ∃ x5, z = [some (galD bs), some (bookD n), some sd, some (.int (st.d : Int)), some (mL (movesAt n bs st a s t b)), x5]) ?_ ?_)
  · refine ss_each (fun e : Nat => D.int (e : Int)) (endsL n bs st.d s t b) (fun j z => ∃ x5, z = [some (galD bs), some (bookD n), some sd, some (.int (st.d : Int)), some (mL (((endsL n bs st.d s t b).take j).flatMap (movesTo n bs st a s t b))), x5]) ?_ ⟨none, rfl⟩ ?_ ?_
    · array_get_dec
      exact Rs.of (ends_eq hw h) rfl
    · rintro j e z hj ⟨x5, rfl⟩
      obtain ⟨he, q, hq⟩ := ends_mem h (List.mem_of_getElem? hj)
      have hlen := moves_len n bs hw st a s t b ((endsL n bs st.d s t b).take j) (by rw [List.length_take]; omega)
      have hl2 := movesTo_len n bs st a s t b e
      have hl3 := called_le (bs := bs) st.d
      have hl4 := hw.f
      rw [take_snoc hj, List.flatMap_append, show [e].flatMap (movesTo n bs st a s t b) = movesTo n bs st a s t b e from by simp]
      unfold Lp_moves_of_1
      refine ss_ext rfl ?_
      array_get_dec
      refine Rs.of (moves_to_eq hw hn hs h he hq hsd) ?_
      refine rs_asL (And.intro ?_ ?_)
      · rw [List.length_map, List.length_map]
        exact Nat.le_trans (by omega) sz5
      · have e1 : ∀ A B : List Mv, mL (A ++ B) = .lst (A.map mvD ++ B.map mvD) := fun A B => by rw [mL, List.map_append]
        rw [e1]
        exact ⟨_, rfl⟩
    · rintro z ⟨x5, rfl⟩
      rw [List.take_length]
      exact ⟨_, rfl⟩
  rintro _ ⟨x5, rfl⟩
  array_get_dec
  rfl)
theorem moves_end (hw : WOk bs) (h : st.d = (pieces bs).length) (hsd : SdOk st sd) : F_moves_of [galD bs, bookD n, sd] = .ok (mL []) := Rs.eq (by
  refine rs_runT ?_
  unfold Fb_moves_of
  show Ss (seqF _ _ [some (galD bs), some (bookD n), some sd, none, none, none]) _ _ _ _ _
  refine ss_seq (ss_cut (fun z => z = [some (galD bs), some (bookD n), some sd, some (.int (st.d : Int)), none, none]) ?_ ?_)
  · refine ss_set (rs_op (rs_var rfl (rs_c ?_)))
    exact rs_sdK hsd 0 rfl rfl
  rintro _ rfl
  refine ss_seq ?_
  array_get_dec
  refine rs_lenG hw ?_
  array_get_dec
  refine ⟨fun _ => ?_, fun c => absurd (of_decide_eq_false c) (by omega)⟩
  array_get_dec
  rfl)
end
end
section
section
variable {bs : List Bk} {e : Nat} {p q : Pc} {a s t : Nat} {b : Bk} {n : Bn} {st : S4}
theorem mv_ok (hw : WOk bs) (hs : StOk bs st) (h : At bs st.d p a s t b) {m : Mv} (hm : m ∈ movesAt n bs st a s t b) : StOk bs m.n ∧ st.d < m.n.d := by
  obtain ⟨e, he, hm⟩ := List.mem_flatMap.mp hm
  have hr := List.mem_range'_1.mp (List.mem_filter.mp he).1
  have hle := h.le
  have hlo := h.hi
  have hu := hs.u
  have hpl := hs.pl
  have hcm := called_mono (bs := bs) (show st.d ≤ e by omega)
  have hnd := need_nn (d := st.d) (e := e) (s := s) hw h.mem
  unfold movesTo at hm
  split at hm
  · simp only [List.mem_cons, List.not_mem_nil, or_false] at hm
    subst hm
    exact ⟨⟨by dsimp only; omega, hnd, Nat.zero_le _⟩, by dsimp only; omega⟩
  · rcases List.mem_append.mp hm with hm | hm
    · split at hm
      · simp only [List.mem_cons, List.not_mem_nil, or_false] at hm
        subst hm
        exact ⟨⟨by dsimp only; omega, by dsimp only; omega, by dsimp only; omega⟩, by dsimp only; omega⟩
      · cases hm
    · obtain ⟨k, hk, rfl⟩ := List.mem_map.mp hm
      have hk := List.mem_range.mp (List.mem_filter.mp hk).1
      have htp := top_nn hw st.pl k
      unfold mvK
      exact ⟨⟨by dsimp only; omega, by dsimp only; omega, by dsimp only; omega⟩, by dsimp only; omega⟩
theorem movesAt_ne (h : At bs st.d p a s t b) : 0 < (movesAt n bs st a s t b).length := by
  have hlo := h.lo
  have hhi := h.hi
  have he : st.d + 1 ∈ endsL n bs st.d s t b := by
    refine List.mem_filter.mpr ⟨List.mem_range'_1.mpr (by omega), ?_⟩
    unfold okE
    rw [decide_eq_true rfl]
    rfl
  have hm : ∃ m, m ∈ movesTo n bs st a s t b (st.d + 1) := by
    unfold movesTo
    split
    · exact ⟨_, List.mem_cons_self⟩
    · refine ⟨mvK n bs st (st.d + 1) a s t b 0, List.mem_append_right _ (List.mem_map_of_mem (List.mem_filter.mpr ⟨List.mem_range.mpr (by omega), ?_⟩))⟩
      unfold fitK
      rw [decide_eq_true rfl]
      rfl
  obtain ⟨m, hm⟩ := hm
  exact List.length_pos_of_mem (List.mem_flatMap.mpr ⟨_, he, hm⟩)
end
end
section
structure Cd {α : Type} [DecidableEq α] (P : α → Prop) (f : α → D) (n : Nat) (py : α → PyData) : Prop where
  e : ∀ a, P a → toPy (f a) = some (py a)
  l : ∀ a, P a → PyData.canLay0 (py a) = true ∧ PyData.depth (py a) ≤ n
  q : ∀ a b, P a → P b → PyData.eqv (py a) (py b) = decide (a = b)
theorem beq_dec {α : Type} [DecidableEq α] (a b : α) : (a == b) = decide (a = b) := rfl
theorem cd_int : Cd (fun _ => True) D.int 0 PyData.int := ⟨fun _ _ => by simp [toPy], fun _ _ => by simp [PyData.canLay0, PyData.depth], fun a b _ _ => by simp [PyData.eqv, beq_dec]⟩
section
variable {α β γ δ ε : Type} [DecidableEq α] [DecidableEq β] [DecidableEq γ] [DecidableEq δ] [DecidableEq ε] {P : α → Prop} {R : β → Prop} {T : γ → Prop} {U : δ → Prop} {f : α → D} {g : β → D} {h : γ → D} {k : δ → D} {n : Nat} {py : α → PyData} {pz : β → PyData} {pw : γ → PyData} {px : δ → PyData}
theorem Cd.all (c : Cd P f n py) : ∀ xs : List α, (∀ x ∈ xs, P x) → toPyL (xs.map f) = some (xs.map py) ∧ PyData.canLayAll0 (xs.map py) = true ∧ PyData.depthAll (xs.map py) ≤ n
  | [], _ => ⟨by simp [toPyL], by simp [PyData.canLayAll0], by simp [PyData.depthAll]⟩
  | x :: xs, hx => by
    obtain ⟨h1, h2, h3⟩ := c.all xs fun y hy => hx y (List.mem_cons_of_mem _ hy)
    have hp := hx x List.mem_cons_self
    refine ⟨by rw [List.map_cons, toPyL, h1, c.e x hp]; rfl, ?_, ?_⟩
    · rw [List.map_cons, PyData.canLayAll0, h2, (c.l x hp).1]; rfl
    · rw [List.map_cons, PyData.depthAll]
      exact Nat.max_le.mpr ⟨(c.l x hp).2, h3⟩
theorem Cd.comp (c : Cd P f n py) (φ : β → α) (hi : ∀ a b, φ a = φ b → a = b) : Cd (fun b => P (φ b)) (fun b => f (φ b)) n (fun b => py (φ b)) := ⟨fun b hb => c.e _ hb, fun b hb => c.l _ hb, fun a b ha hb => by
  rw [c.q _ _ ha hb]
  by_cases h : a = b
  · subst h; simp
  · rw [decide_eq_false h, decide_eq_false fun z => h (hi _ _ z)]⟩
theorem toPy2 {a b : D} {p q : PyData} (h1 : toPy a = some p) (h2 : toPy b = some q) : toPy (.tup [a, b]) = some (.tuple [p, q]) := by
  rw [toPy, toPyL, toPyL, toPyL, h1, h2]; rfl
theorem cd_p2 (c : Cd P f n py) (d : Cd R g n pz) : Cd (fun p : α × β => P p.1 ∧ R p.2) (fun p => D.tup [f p.1, g p.2]) (n + 1) (fun p => .tuple [py p.1, pz p.2]) := ⟨fun p hp => toPy2 (c.e _ hp.1) (d.e _ hp.2), fun p hp => by
  have h1 := c.l _ hp.1
  have h2 := d.l _ hp.2
  refine ⟨by simp [PyData.canLay0, PyData.canLayAll0, h1.1, h2.1], ?_⟩
  simp only [PyData.depth, PyData.depthAll]
  omega, fun p q hp hq => by
  simp only [PyData.eqv, PyData.eqvAll, c.q _ _ hp.1 hq.1, d.q _ _ hp.2 hq.2]
  by_cases h1 : p.1 = q.1 <;> by_cases h2 : p.2 = q.2 <;> simp [h1, h2, Prod.ext_iff]⟩
theorem eq_cd (c : Cd P f n py) (hn : n ≤ 64) {a b : α} (ha : P a) (hb : P b) (hf : eqFlat (f a) (f b) = none) : eqB (f a) (f b) = .ok (decide (a = b)) := by
  have sh : ∀ a, P a → SeqAt.shaped (py a) = true := fun a ha => by
    obtain ⟨h1, h2⟩ := c.l a ha
    unfold SeqAt.shaped
    rw [h1, decide_eq_true (by omega)]
    rfl
  unfold eqB
  rw [hf]
  dsimp only
  unfold eqDeep
  rw [c.e a ha, c.e b hb]
  dsimp only
  rw [if_pos ⟨sh a ha, sh b hb⟩, c.q a b ha hb]
theorem rs_eqC {Q : D → Prop} {E : Str → List Str → List D → Prop} (c : Cd P f n py) (hn : n ≤ 64) {a b : α} (ha : P a) (hb : P b) (hf : eqFlat (f a) (f b) = none) (q : Q (.bl (decide (a = b)))) : Rs (eqD (f a) (f b)) Q E := by
  unfold eqD
  rw [eq_cd c hn ha hb hf]
  exact q
end
end
section
structure Sp2 where
  e : Int
  c : Option Int
deriving DecidableEq, Inhabited
def oI : Option Int → D
  | none => .non
  | some i => .int i
def seD (x : Sp2) : D := .tup [.int x.e, oI x.c]
abbrev layD (xs : List Sp2) : D := .tup (xs.map seD)
def mvSp (m : Mv) : Sp2 := ⟨(m.e : Int), m.m.map fun k => (k : Int)⟩
theorem step_se (m : Mv) : stepD m.e m.m = seD (mvSp m) := by
  unfold stepD seD mvSp
  cases m.m <;> rfl
theorem cd_oI : Cd (fun _ => True) oI 0 (fun o : Option Int => match o with | none => PyData.none | some i => PyData.int i) := ⟨fun o _ => by cases o <;> simp [oI, toPy], fun o _ => by cases o <;> simp [PyData.canLay0, PyData.depth], fun a b _ _ => by cases a <;> cases b <;> simp [PyData.eqv, beq_dec]⟩
theorem rs_eqSe {a b : Sp2} {Q : D → Prop} {E : Str → List Str → List D → Prop} (q : Q (.bl (decide (a = b)))) : Rs (eqD (seD a) (seD b)) Q E := by
  have c := (cd_p2 cd_int cd_oI).comp (fun x : Sp2 => (x.e, x.c)) fun a b h => by
    obtain ⟨a1, a2⟩ := a
    obtain ⟨b1, b2⟩ := b
    simp only [Prod.mk.injEq] at h
    obtain ⟨rfl, rfl⟩ := h
    rfl
  exact rs_eqC c (by decide) (a := a) (b := b) ⟨trivial, trivial⟩ ⟨trivial, trivial⟩ rfl q
def movesS (n : Bn) (bs : List Bk) (st : S4) : List Mv := match (flL bs)[st.d]? with
  | some (_, a, s, t) => movesAt n bs st a s t (bs.getD a default)
  | none => []
def st0 : S4 := ⟨0, 0, 0, false⟩
theorem st0_ok (bs : List Bk) : StOk bs st0 := ⟨Nat.zero_le _, Int.le_refl 0, Nat.zero_le _⟩
section
variable {bs : List Bk} {n : Bn} {st : S4} {sd : D}
theorem movesS_at {p : Pc} {a s t : Nat} {b : Bk} (h : At bs st.d p a s t b) : movesS n bs st = movesAt n bs st a s t b := by
  unfold movesS
  rw [h.ff]
  dsimp only
  rw [List.getD_eq_getElem?_getD, h.bb]
  rfl
theorem movesS_end (h : st.d = (pieces bs).length) : movesS n bs st = [] := by
  unfold movesS
  rw [List.getElem?_eq_none (by rw [flA_len, h]; exact Nat.le_refl _)]
theorem movesS_cases (hs : StOk bs st) : (st.d = (pieces bs).length) ∨ ∃ p a s t b, At bs st.d p a s t b := by
  by_cases h : st.d = (pieces bs).length
  · exact .inl h
  · exact .inr (at_ex (by have := hs.d; omega))
theorem movesS_ok (hw : WOk bs) (hs : StOk bs st) {m : Mv} (hm : m ∈ movesS n bs st) : StOk bs m.n ∧ st.d < m.n.d := by
  rcases movesS_cases hs with h | ⟨p, a, s, t, b, h⟩
  · rw [movesS_end h] at hm; cases hm
  · rw [movesS_at h] at hm; exact mv_ok hw hs h hm
theorem movesS_len (hw : WOk bs) (hs : StOk bs st) : (movesS n bs st).length ≤ 1000 := by
  rcases movesS_cases hs with h | ⟨p, a, s, t, b, h⟩
  · rw [movesS_end h]; exact Nat.zero_le _
  · rw [movesS_at h]; exact moves_len n bs hw st a s t b _ (ends_len hw h)
theorem movesS_ne (hs : StOk bs st) (h : st.d ≠ (pieces bs).length) : 0 < (movesS n bs st).length := by
  rcases movesS_cases hs with h' | ⟨p, a, s, t, b, h'⟩
  · exact absurd h' h
  · rw [movesS_at h']; exact movesAt_ne h'
theorem pmoves (hw : WOk bs) (hn : BnOk n) (hs : StOk bs st) (hsd : SdOk st sd) : F_moves_of [galD bs, bookD n, sd] = .ok (mL (movesS n bs st)) := by
  rcases movesS_cases hs with h | ⟨p, a, s, t, b, h⟩
  · rw [movesS_end h]; exact moves_end hw h hsd
  · rw [movesS_at h]; exact moves_eq hw hn hs h hsd
theorem to_e {a s t e : Nat} {b : Bk} {m : Mv} (h : m ∈ movesTo n bs st a s t b e) : m.e = e := by
  unfold movesTo at h
  split at h
  · simp only [List.mem_cons, List.not_mem_nil, or_false] at h
    rw [h]
  · rcases List.mem_append.mp h with h | h
    · split at h
      · simp only [List.mem_cons, List.not_mem_nil, or_false] at h
        rw [h]
      · cases h
    · obtain ⟨k, _, rfl⟩ := List.mem_map.mp h
      rfl
theorem mv_inj (hs : StOk bs st) {m m' : Mv} (h1 : m ∈ movesS n bs st) (h2 : m' ∈ movesS n bs st) (h : mvSp m = mvSp m') : m = m' := by
  rcases movesS_cases hs with h' | ⟨p, a, s, t, b, h'⟩
  · rw [movesS_end h'] at h1; cases h1
  rw [movesS_at h'] at h1 h2
  obtain ⟨e, _, h1⟩ := List.mem_flatMap.mp h1
  obtain ⟨e', _, h2⟩ := List.mem_flatMap.mp h2
  have g1 := to_e h1
  have g2 := to_e h2
  unfold mvSp at h
  injection h with k1 k2
  have k2 : m.m = m'.m := by
    cases hm : m.m with
    | none => cases hm' : m'.m with
      | none => rfl
      | some j => rw [hm, hm'] at k2; cases k2
    | some i => cases hm' : m'.m with
      | none => rw [hm, hm'] at k2; cases k2
      | some j =>
        rw [hm, hm'] at k2
        have k3 : (i : Int) = (j : Int) := Option.some.inj k2
        rw [show i = j by omega]
  have ee : e = e' := by omega
  subst ee
  unfold movesTo at h1 h2
  split at h1
  · rename_i hz
    rw [if_pos hz] at h2
    simp only [List.mem_cons, List.not_mem_nil, or_false] at h1 h2
    rw [h1, h2]
  · rename_i hz
    rw [if_neg hz] at h2
    rcases List.mem_append.mp h1 with h1 | h1 <;> rcases List.mem_append.mp h2 with h2 | h2
    · split at h1
      · rename_i hc
        rw [if_pos hc] at h2
        simp only [List.mem_cons, List.not_mem_nil, or_false] at h1 h2
        rw [h1, h2]
      · cases h1
    · obtain ⟨k, _, rfl⟩ := List.mem_map.mp h2
      split at h1
      · simp only [List.mem_cons, List.not_mem_nil, or_false] at h1
        rw [h1] at k2
        cases k2
      · cases h1
    · obtain ⟨k, _, rfl⟩ := List.mem_map.mp h1
      split at h2
      · simp only [List.mem_cons, List.not_mem_nil, or_false] at h2
        rw [h2] at k2
        cases k2
      · cases h2
    · obtain ⟨k, _, rfl⟩ := List.mem_map.mp h1
      obtain ⟨k', _, rfl⟩ := List.mem_map.mp h2
      unfold mvK at k2
      injection k2 with k2
      rw [k2]
end
def isMv (x : Sp2) (m : Mv) : Bool := decide (mvSp m = x)
def goR (mv : S4 → List Mv) : S4 → List Sp2 → List Mv
  | _, [] => []
  | st, x :: xs => match (mv st).find? (isMv x) with
    | some m => m :: goR mv m.n xs
    | none => []
def endS (st : S4) (ms : List Mv) : S4 := (ms.getLast?.map (·.n)).getD st
theorem endS_cons (st : S4) (m : Mv) (ms : List Mv) : endS st (m :: ms) = endS m.n ms := by
  unfold endS
  cases ms with
  | nil => rfl
  | cons x xs => rw [List.getLast?_cons_cons]; simp [List.getLast?_cons]
theorem endS_snoc (st : S4) (ms : List Mv) (m : Mv) : endS st (ms ++ [m]) = m.n := by unfold endS; simp
section
variable {mv : S4 → List Mv}
theorem go_len : ∀ (xs : List Sp2) (st : S4), (goR mv st xs).length ≤ xs.length
  | [], _ => Nat.le_refl _
  | x :: xs, st => by
    unfold goR
    split
    · rw [List.length_cons, List.length_cons]
      have := go_len xs
      exact Nat.succ_le_succ (this _)
    · exact Nat.zero_le _
theorem go_at : ∀ (xs : List Sp2) (st : S4) (i : Nat) (x : Sp2), i ≤ (goR mv st xs).length → xs[i]? = some x → (mv (endS st ((goR mv st xs).take i))).find? (isMv x) = (goR mv st xs)[i]?
  | [], _, _, _, _, h => by simp at h
  | y :: ys, st, 0, x, _, h => by
    have : y = x := by simpa using h
    subst this
    unfold goR
    rw [List.take_zero, show endS st [] = st from rfl]
    cases hf : (mv st).find? (isMv y) with
    | some m => rfl
    | none => rfl
  | y :: ys, st, i + 1, x, hi, h => by
    unfold goR at hi ⊢
    cases hf : (mv st).find? (isMv y) with
    | none => rw [hf] at hi; simp at hi
    | some m =>
      rw [hf] at hi
      dsimp only at hi ⊢
      rw [List.length_cons] at hi
      rw [List.take_succ_cons, endS_cons, List.getElem?_cons_succ]
      exact go_at ys m.n i x (by omega) (by simpa using h)
theorem go_snoc : ∀ (xs : List Sp2) (st : S4) (x : Sp2) (m : Mv), (goR mv st xs).length = xs.length → (mv (endS st (goR mv st xs))).find? (isMv x) = some m → goR mv st (xs ++ [x]) = goR mv st xs ++ [m]
  | [], st, x, m, _, h => by
    show goR mv st [x] = [m]
    unfold goR
    rw [show (mv st).find? (isMv x) = some m from h]
    rfl
  | y :: ys, st, x, m, hl, h => by
    rw [List.cons_append]
    unfold goR at hl h ⊢
    cases hf : (mv st).find? (isMv y) with
    | none => rw [hf] at hl; simp at hl
    | some k =>
      rw [hf] at hl h
      dsimp only at hl h ⊢
      rw [List.length_cons, List.length_cons] at hl
      rw [endS_cons] at h
      rw [go_snoc ys k.n x m (by omega) h]
      rfl
end
section
variable {bs : List Bk} {n : Bn}
theorem go_ok (hw : WOk bs) : ∀ (xs : List Sp2) (st : S4), StOk bs st → ∀ m ∈ goR (movesS n bs) st xs, StOk bs m.n
  | [], _, _, m, h => by cases h
  | x :: xs, st, hs, m, h => by
    unfold goR at h
    cases hf : (movesS n bs st).find? (isMv x) with
    | none => rw [hf] at h; cases h
    | some k =>
      rw [hf] at h
      have hk := (movesS_ok hw hs (List.mem_of_find?_eq_some hf)).1
      rcases List.mem_cons.mp h with rfl | h
      · exact hk
      · exact go_ok hw xs k.n hk m h
theorem endS_ok {ms : List Mv} {st : S4} (hs : StOk bs st) (h : ∀ m ∈ ms, StOk bs m.n) : StOk bs (endS st ms) := by
  unfold endS
  cases hl : ms.getLast? with
  | none => exact hs
  | some m => exact h m (List.mem_of_getLast? hl)
end
/-- the states that are passed, the cost -/
def stsOf (ms : List Mv) : List S4 := ms.map (·.n)
end
section
theorem seD_mv (m : Mv) : mvD m = .tup [seD (mvSp m), .int m.c, stD m.n] := by unfold mvD; rw [step_se]
theorem rs_mv0 {m : Mv} {Q : D → Prop} {E : Str → List Str → List D → Prop} (q : Q (seD (mvSp m))) : Rs (ixD (mvD m) (.int 0)) Q E := by
  rw [seD_mv]; exact rs_ixc 0 rfl q
theorem rs_mv2 {m : Mv} {Q : D → Prop} {E : Str → List Str → List D → Prop} (q : Q (stD m.n)) : Rs (ixD (mvD m) (.int 2)) Q E := by
  rw [seD_mv]; exact rs_ixc 2 rfl q
/-- the start, as the program has it -/
def stK : D := .kt [.int 0, .int 0, .int 0, .bl false]
theorem sd_k : SdOk st0 stK := .inr ⟨rfl, rfl⟩
def sdOf (i : Nat) (st : S4) : D := if i = 0 then stK else stD st
section
variable {bs : List Bk} {n : Bn} {xs : List Sp2}
theorem sdOf_ok {ms : List Mv} {i : Nat} : SdOk (endS st0 (ms.take i)) (sdOf i (endS st0 (ms.take i))) := by
  unfold sdOf
  split
  · rename_i h
    subst h
    exact sd_k
  · exact .inl rfl
/-- what it tells, if anything -/
def BadK (k : Nat) : Str → List Str → List D → Prop := fun nm ns vs => nm = ("BadLaying" : Str) ∧ ns = (["step"] : List Str) ∧ vs = [.int (k : Int)]
def verd (bs : List Bk) (n : Bn) (xs : List Sp2) : Option Nat := if (goR (movesS n bs) st0 xs).length < xs.length then some (goR (movesS n bs) st0 xs).length else if (endS st0 (goR (movesS n bs) st0 xs)).d < (pieces bs).length then some xs.length else none
theorem made_sp (hw : WOk bs) (hn : BnOk n) (hx : xs.length ≤ 1000) : Rs (F_made_moves [galD bs, bookD n, layD xs]) (fun d => verd bs n xs = none ∧ d = mL (goR (movesS n bs) st0 xs)) (fun a b c => ∃ k, verd bs n xs = some k ∧ BadK k a b c) := by
  obtain ⟨ms, hms⟩ : ∃ ms, goR (movesS n bs) st0 xs = ms := ⟨_, rfl⟩
  have hml : ms.length ≤ xs.length := by rw [← hms]; exact go_len _ _
  have hok : ∀ i, StOk bs (endS st0 (ms.take i)) := fun i => endS_ok (st0_ok bs) fun m hm => go_ok hw xs st0 (st0_ok bs) m (by rw [hms]; exact List.mem_of_mem_take hm)
  have hgo : ∀ i x, i ≤ ms.length → xs[i]? = some x → (movesS n bs (endS st0 (ms.take i))).find? (isMv x) = ms[i]? := fun i x h1 h2 => by
    have := go_at (mv := movesS n bs) xs st0 i x (by rw [hms]; exact h1) h2
    rw [hms] at this
    exact this
  unfold verd
  rw [hms]
  refine rs_runT ?_
  unfold Fb_made_moves
  show Ss (seqF _ _ [some (galD bs), some (bookD n), some (layD xs), none, none, none, none, none]) _ _ _ _ _
  refine ss_seq (ss_cut (fun z => z = [some (galD bs), some (bookD n), some (layD xs), some (.lst []), none, none, none, none]) ?_ ?_)
  · array_get_dec
    rfl
  rintro _ rfl
  refine ss_seq (ss_cut (fun z => z = [some (galD bs), some (bookD n), some (layD xs), some (.lst []), some stK, none, none, none]) ?_ ?_)
  · array_get_dec
    rfl
  rintro _ rfl
  refine ss_seq (ss_cut (fun z => ∃ x5 x6 x7, z = [some (galD bs), some (bookD n), some (layD xs), some (mL ms), some (sdOf xs.length (endS st0 ms)), x5, x6, x7] ∧ ms.length = xs.length) ?_ ?_)
  · refine ss_for (fun i z => ∃ x5 x6 x7, z = [some (galD bs), some (bookD n), some (layD xs), some (mL (ms.take i)), some (sdOf i (endS st0 (ms.take i))), x5, x6, x7] ∧ i ≤ ms.length) ?_
    refine rs_it (rs_var rfl (rs_enT ⟨⟨none, none, none, rfl, Nat.zero_le _⟩, ?_, ?_⟩))
    · rintro i d z hd ⟨x5, x6, x7, rfl, hi⟩
      obtain ⟨d, hd2, rfl⟩ := numd_inv _ _ _ _ hd
      rw [List.getElem?_map, Option.map_eq_some_iff] at hd2
      obtain ⟨x, hxi, rfl⟩ := hd2
      have hil := (List.getElem?_eq_some_iff.mp hxi).1
      refine ⟨[some (galD bs), some (bookD n), some (layD xs), some (mL (ms.take i)), some (sdOf i (endS st0 (ms.take i))), some (.int (i : Int)), some (seD x), x7], by rw [Nat.zero_add]; rfl, ?_⟩
      have hf := hgo i x hi hxi
      have hmv := pmoves (n := n) (sd := sdOf i (endS st0 (ms.take i))) hw hn (hok i) sdOf_ok
      have hsl := movesS_len (n := n) hw (hok i)
      generalize movesS n bs (endS st0 (ms.take i)) = L at hf hmv hsl
      unfold Lp_made_moves_2
      refine ss_seq (ss_cut (fun z => ∃ m, ms[i]? = some m ∧ z = [some (galD bs), some (bookD n), some (layD xs), some (mL (ms.take i)), some (sdOf i (endS st0 (ms.take i))), some (.int (i : Int)), some (seD x), some (mvD m)]) ?_ ?_)
      · refine ss_forE (fun j z => ∃ x7, z = [some (galD bs), some (bookD n), some (layD xs), some (mL (ms.take i)), some (sdOf i (endS st0 (ms.take i))), some (.int (i : Int)), some (seD x), x7] ∧ (L.take j).find? (isMv x) = none) ?_
        array_get_dec
        refine Rs.of hmv ?_
        array_get_dec
        refine ⟨⟨x7, rfl, rfl⟩, ?_, ?_⟩
        · rintro j d z hd ⟨y7, rfl, hnone⟩
          rw [List.getElem?_map, Option.map_eq_some_iff] at hd
          obtain ⟨m, hm, rfl⟩ := hd
          refine ⟨_, rfl, ?_⟩
          unfold Lp_made_moves_1
          show Ss (ifF _ _ _ [some (galD bs), some (bookD n), some (layD xs), some (mL (ms.take i)), some (sdOf i (endS st0 (ms.take i))), some (.int (i : Int)), some (seD x), some (mvD m)]) _ _ _ _ _
          array_get_dec
          refine rs_mv0 ?_
          array_get_dec
          refine rs_eqSe ?_
          array_get_dec
          refine ⟨fun c => ?_, fun c => ?_⟩
          · refine ss_bk ⟨m, ?_, rfl⟩
            rw [← hf, ← List.take_append_drop j L, List.find?_append, hnone, List.drop_eq_getElem?_toList_append, hm]
            simp [isMv, of_decide_eq_true c]
          · refine ⟨_, rfl, ?_⟩
            rw [take_snoc hm, List.find?_append, hnone]
            simp [isMv, of_decide_eq_false c]
        · rintro z ⟨y7, rfl, hnone⟩
          rw [List.length_map, List.take_length] at hnone
          rw [hnone] at hf
          have hil2 : ¬ i < ms.length := fun z => by rw [List.getElem?_eq_getElem z] at hf; cases hf
          refine ss_raise ?_
          array_get_dec
          refine ⟨rfl, i, ?_, rfl, rfl, rfl⟩
          rw [if_pos (by omega), show ms.length = i by omega]
      rintro _ ⟨m, hm, rfl⟩
      have hmi := (List.getElem?_eq_some_iff.mp hm).1
      have e1 : endS st0 (ms.take (i + 1)) = m.n := by rw [take_snoc hm, endS_snoc]
      have e2 : mL (ms.take (i + 1)) = .lst ((ms.take i).map mvD ++ [mvD m]) := by rw [take_snoc hm, mL, List.map_append]; rfl
      have hl : (ms.take i).length < 100000 := by rw [List.length_take]; omega
      rw [e1, e2, show sdOf (i + 1) m.n = stD m.n from rfl]
      refine ss_seq (ss_cut (fun z => z = [some (galD bs), some (bookD n), some (layD xs), some (.lst ((ms.take i).map mvD ++ [mvD m])), some (sdOf i (endS st0 (ms.take i))), some (.int (i : Int)), some (seD x), some (mvD m)]) ?_ ?_)
      · refine ss_app (ds := (ms.take i).map mvD) rfl ?_
        refine rs_var rfl ⟨Nat.lt_of_lt_of_le (m := 100000) (by rw [List.length_map]; exact hl) sz5, rfl⟩
      rintro _ rfl
      array_get_dec
      refine rs_mv2 ?_
      exact ⟨_, _, _, rfl, hmi⟩
    · rintro z ⟨x5, x6, x7, rfl, hi⟩
      rw [numd_len, List.length_map] at hi ⊢
      rw [List.take_of_length_le (by omega)]
      exact ⟨_, _, _, rfl, by omega⟩
  rintro _ ⟨x5, x6, x7, rfl, hl⟩
  have hend : endS st0 ms = endS st0 (ms.take xs.length) := by rw [List.take_of_length_le (by omega)]
  have hsd : SdOk (endS st0 ms) (sdOf xs.length (endS st0 ms)) := by rw [hend]; exact sdOf_ok
  rw [if_neg (show ¬ ms.length < xs.length by omega)]
  refine ss_seq ?_
  array_get_dec
  refine rs_sdK hsd 0 rfl ?_
  array_get_dec
  refine rs_lenG hw ?_
  array_get_dec
  refine ⟨fun c => ?_, fun c => ?_⟩
  · have c := of_decide_eq_true c
    rw [if_pos (show (endS st0 ms).d < (pieces bs).length by omega)]
    refine ss_raise ?_
    array_get_dec
    rw [List.length_map]
    exact ⟨rfl, _, rfl, rfl, rfl, rfl⟩
  · have c := of_decide_eq_false c
    rw [if_neg (show ¬ (endS st0 ms).d < (pieces bs).length by omega)]
    array_get_dec
    exact ⟨rfl, rfl⟩
/-- the states' list, the start as the program has it -/
def stsP (ms : List Mv) : D := .lst (stK :: (stsOf ms).map stD)
theorem states_sp (hw : WOk bs) (hn : BnOk n) (hx : xs.length ≤ 1000) : Rs (F_states_of [galD bs, bookD n, layD xs]) (fun d => verd bs n xs = none ∧ d = stsP (goR (movesS n bs) st0 xs)) (fun a b c => ∃ k, verd bs n xs = some k ∧ BadK k a b c) := by
  have hl := go_len (mv := movesS n bs) xs st0
  have hm := made_sp hw hn hx
  generalize goR (movesS n bs) st0 xs = ms at hl hm
  refine rs_runT ?_
  unfold Fb_states_of
  show Ss (retF _ [some (galD bs), some (bookD n), some (layD xs), none]) _ _ _ _ _
  refine ss_ret (rs_op ?_)
  array_get_dec
  refine Rs.bind ?_
  show Rs (dIt itemsL (dCall F_made_moves (dCons (dVar 0) (dCons (dVar 1) (dCons (dVar 2) dNil)))) [some (galD bs), some (bookD n), some (layD xs), none]) _ _
  refine rs_it (rs_call (rs_cons (rs_var rfl (rs_cons (rs_var rfl (rs_cons (rs_var rfl (rs_nil ?_))))))))
  refine hm.impE (fun d q => ?_) fun _ _ _ z => z
  obtain ⟨hv, rfl⟩ := q
  refine rs_itsL (rs_guard (by rw [List.length_map]; exact Nat.le_trans (by omega) sz5) ?_)
  rw [lc_mapX mvD (fun m => stD m.n) ms fun m _ => ⟨_, rfl, rfl, rs_op (rs_var rfl (rs_c (rs_mv2 rfl)))⟩]
  refine rs_addLO ?_ ⟨hv, ?_⟩
  · rw [List.length_map]; exact Nat.le_trans (m := 100000) (by simp only [List.length_cons, List.length_nil]; omega) sz5
  · unfold stsP stsOf
    rw [List.map_map]
    rfl
end
end
section
theorem mb (a s : Int) (h0 : 0 ≤ a) (h4 : a ≤ 6) (h1 : 1 ≤ s) (h2 : s ≤ 150) : 0 ≤ a * s ∧ a * s ≤ 900 ∧ (1 ≤ a → 1 ≤ a * s) := by
  have : a = 0 ∨ a = 1 ∨ a = 2 ∨ a = 3 ∨ a = 4 ∨ a = 5 ∨ a = 6 := by omega
  rcases this with rfl | rfl | rfl | rfl | rfl | rfl | rfl <;> omega
def LM (m : Nat) : List Int := [2, 2, 2, 2] ++ (List.replicate m [4, 3, 2, 6, 9]).flatten
theorem lm_pos (m : Nat) : ∀ l ∈ LM m, 0 < l ∧ l < 4611686018427387904 := by
  intro l hl
  unfold LM at hl
  rcases List.mem_append.mp hl with h | h
  · simp only [List.mem_cons, List.not_mem_nil, or_false] at h; omega
  · obtain ⟨r, hr, h⟩ := List.mem_flatten.mp h
    rw [(List.mem_replicate.mp hr).2] at h
    simp only [List.mem_cons, List.not_mem_nil, or_false] at h; omega
theorem fit_drop : ∀ (n : Nat) {vs ls : List Int}, Fit vs ls → Fit (vs.drop n) (ls.drop n)
  | 0, _, _, h => h
  | n + 1, [], [], _ => trivial
  | n + 1, v :: vs, l :: ls, h => fit_drop n h.2.2
  | n + 1, [], _ :: _, h => h.elim
  | n + 1, _ :: _, [], h => h.elim
theorem rep_snoc {α : Type} (n : Nat) (x : α) : List.replicate (n + 1) x = List.replicate n x ++ [x] := by
  rw [← List.replicate_append_replicate (n := n) (m := 1)]; rfl
theorem fit5 {m k : Nat} {vs : List Int} (h : Fit vs (LM m)) (hk : k < m) (hm : m ≤ 4) : ∃ v0 v1 v2 v3 v4 us, vs.drop (5 * k + 4) = v0 :: v1 :: v2 :: v3 :: v4 :: us ∧ (0 ≤ v0 ∧ v0 < 4) ∧ (0 ≤ v1 ∧ v1 < 3) ∧ (0 ≤ v2 ∧ v2 < 2) ∧ (0 ≤ v3 ∧ v3 < 6) ∧ (0 ≤ v4 ∧ v4 < 9) := by
  have h1 := fit_drop (5 * k + 4) h
  have : ∃ t, (LM m).drop (5 * k + 4) = 4 :: 3 :: 2 :: 6 :: 9 :: t := by
    have hm' : m = 1 ∨ m = 2 ∨ m = 3 ∨ m = 4 := by omega
    have hk' : k = 0 ∨ k = 1 ∨ k = 2 ∨ k = 3 := by omega
    rcases hm' with rfl | rfl | rfl | rfl <;> rcases hk' with rfl | rfl | rfl | rfl <;> first | exact ⟨_, rfl⟩ | omega
  obtain ⟨t, e⟩ := this
  rw [e] at h1
  generalize vs.drop (5 * k + 4) = ws at h1
  obtain ⟨v0, _, rfl, a0, b0, h1⟩ := h1.cons
  obtain ⟨v1, _, rfl, a1, b1, h1⟩ := h1.cons
  obtain ⟨v2, _, rfl, a2, b2, h1⟩ := h1.cons
  obtain ⟨v3, _, rfl, a3, b3, h1⟩ := h1.cons
  obtain ⟨v4, us, rfl, a4, b4, h1⟩ := h1.cons
  exact ⟨v0, v1, v2, v3, v4, us, rfl, ⟨a0, b0⟩, ⟨a1, b1⟩, ⟨a2, b2⟩, ⟨a3, b3⟩, ⟨a4, b4⟩⟩
theorem at_drop {vs us : List Int} {n j : Nat} {v : Int} (h : vs.drop n = us) (hu : us[j]? = some v) {i : Int} (hi : i = ((n + j : Nat) : Int)) : atI (vs.map D.int) i = some (.int v) := by
  subst hi
  refine atI_nat ?_
  have : vs[n + j]? = some v := by rw [← List.getElem?_drop, h]; exact hu
  rw [List.getElem?_map, this]
  rfl
theorem block_sp (c sc : Int) (m : Nat) (hm : 1 ≤ m ∧ m ≤ 4) (hs : 1 ≤ sc ∧ sc ≤ 150) : Rs (F_l_block [.int c, .int (m : Int), .int sc]) (fun d => ∃ b, d = bkD b ∧ BkOk b ∧ b.ps.length = m ∧ ∀ p ∈ b.ps, p.cs.length ≤ 1) nE := by
  refine rs_run ?_
  unfold Fb_l_block
  show Ss (seqF _ _ [some (.int c), some (.int (m : Int)), some (.int sc), none, none, none, none, none, none, none]) _ _ _ _ _
  refine ss_seq (ss_cut (fun z => z = [some (.int c), some (.int (m : Int)), some (.int sc), some (iL (LM 0)), none, none, none, none, none, none]) ?_ ?_)
  · array_get_dec
    rfl
  rintro _ rfl
  refine ss_seq (ss_cut (fun z => ∃ x4, z = [some (.int c), some (.int (m : Int)), some (.int sc), some (iL (LM m)), x4, none, none, none, none, none]) ?_ ?_)
  · refine ss_rng m (fun i z => ∃ x4, z = [some (.int c), some (.int (m : Int)), some (.int sc), some (iL (LM i)), x4, none, none, none, none, none]) ?_ (by omega) ⟨none, rfl⟩ ?_ ?_
    · array_get_dec
      rfl
    · rintro i z hi ⟨x4, rfl⟩
      unfold Lp_l_block_1
      array_get_dec
      refine rs_addLL ?_ ?_
      · refine Nat.le_trans (m := 100000) ?_ sz5
        have : ((List.replicate i [(4 : Int), 3, 2, 6, 9]).flatten).length = i * 5 := by rw [List.length_flatten, List.map_replicate, List.sum_replicate_nat]; rfl
        unfold LM
        rw [List.length_map, List.length_append, this]
        simp only [List.length_cons, List.length_nil]
        omega
      · refine ⟨some (.int (i : Int)), ?_⟩
        unfold LM
        rw [rep_snoc, List.flatten_append, ← List.append_assoc, show [D.int 4, .int 3, .int 2, .int 6, .int 9] = [(4 : Int), 3, 2, 6, 9].map D.int from rfl, ← List.map_append]
        simp only [List.flatten_cons, List.flatten_nil, List.append_nil]
        rfl
    · rintro z ⟨x4, rfl⟩
      exact ⟨x4, rfl⟩
  rintro _ ⟨x4, rfl⟩
  refine ss_seq (ss_cut (fun z => ∃ vs, z = [some (.int c), some (.int (m : Int)), some (.int sc), some (iL (LM m)), x4, some (iL vs), none, none, none, none] ∧ Fit vs (LM m)) ?_ ?_)
  · array_get_dec
    refine row_of _ (LM m) (lm_pos m) ?_ fun vs hf => ?_
    · have : ((List.replicate m [(4 : Int), 3, 2, 6, 9]).flatten).length = m * 5 := by rw [List.length_flatten, List.map_replicate, List.sum_replicate_nat]; rfl
      unfold LM
      rw [List.length_append, this]
      simp only [List.length_cons, List.length_nil]
      omega
    exact ⟨vs, rfl, hf⟩
  rintro _ ⟨vs, rfl, hf⟩
  refine ss_seq (ss_cut (fun z => z = [some (.int c), some (.int (m : Int)), some (.int sc), some (iL (LM m)), x4, some (iL vs), some (.lst (([] : List Pc).map pcD)), none, none, none]) ?_ ?_)
  · array_get_dec
    rfl
  rintro _ rfl
  refine ss_seq (ss_cut (fun z => ∃ (ps : List Pc) (z4 z7 z8 z9 : Option D), z = [some (.int c), some (.int (m : Int)), some (.int sc), some (iL (LM m)), z4, some (iL vs), some (.lst (ps.map pcD)), z7, z8, z9] ∧ ps.length = m ∧ (∀ j p, ps[j]? = some p → PcOk p ∧ p.cs.length ≤ 1 ∧ (p.k = 2 ↔ j + 1 = m))) ?_ ?_)
  · refine ss_rng m (fun k z => ∃ (ps : List Pc) (z4 z7 z8 z9 : Option D), z = [some (.int c), some (.int (m : Int)), some (.int sc), some (iL (LM m)), z4, some (iL vs), some (.lst (ps.map pcD)), z7, z8, z9] ∧ ps.length = k ∧ (∀ j p, ps[j]? = some p → PcOk p ∧ p.cs.length ≤ 1 ∧ (p.k = 2 ↔ j + 1 = m))) ?_ (by omega) ⟨[], _, _, _, _, rfl, rfl, fun j p h => by simp at h⟩ ?_ ?_
    · array_get_dec
      rfl
    · rintro k z hk ⟨ps, z4, z7, z8, z9, rfl, q1, q2⟩
      obtain ⟨v0, v1, v2, v3, v4, us, hd, ⟨a0, b0⟩, ⟨a1, b1⟩, ⟨a2, b2⟩, ⟨a3, b3⟩, ⟨a4, b4⟩⟩ := fit5 hf hk hm.2
      have e4 : atI (vs.map D.int) (5 * (k : Int) + 4) = some (.int v0) := at_drop hd (j := 0) rfl (by omega)
      have e5 : atI (vs.map D.int) (5 * (k : Int) + 5) = some (.int v1) := at_drop hd (j := 1) rfl (by omega)
      have e6 : atI (vs.map D.int) (5 * (k : Int) + 6) = some (.int v2) := at_drop hd (j := 2) rfl (by omega)
      have e7 : atI (vs.map D.int) (5 * (k : Int) + 7) = some (.int v3) := at_drop hd (j := 3) rfl (by omega)
      have e8 : atI (vs.map D.int) (5 * (k : Int) + 8) = some (.int v4) := at_drop hd (j := 4) rfl (by omega)
      have m0 := mb (v0 + 1) sc (by omega) (by omega) hs.1 hs.2
      have m2 := mb v2 sc (by omega) (by omega) hs.1 hs.2
      have m2' := mb (v2 + 1) sc (by omega) (by omega) hs.1 hs.2
      have m3 := mb (1 + v3 / 3) sc (by omega) (by omega) hs.1 hs.2
      have m3' := m3.2.2 (by omega)
      have m0' := m0.2.2 (by omega)
      unfold Lp_l_block_2
      show Ss (seqF _ _ [some (.int c), some (.int (m : Int)), some (.int sc), some (iL (LM m)), some (.int (k : Int)), some (iL vs), some (.lst (ps.map pcD)), z7, z8, z9]) _ _ _ _ _
      refine ss_seq (ss_cut (fun z => z = [some (.int c), some (.int (m : Int)), some (.int sc), some (iL (LM m)), some (.int (k : Int)), some (iL vs), some (.lst (ps.map pcD)), some (.tup (tieL ⟨0, 0, (v2 + 1) * sc, [], []⟩)), z8, z9]) ?_ ?_)
      · array_get_dec
        rfl
      rintro _ rfl
      refine ss_seq (ss_cut (fun z => ∃ t tw, z = [some (.int c), some (.int (m : Int)), some (.int sc), some (iL (LM m)), some (.int (k : Int)), some (iL vs), some (.lst (ps.map pcD)), some (.tup (tieL ⟨0, t, tw, [], []⟩)), z8, z9] ∧ t ≤ 1 ∧ 0 ≤ tw ∧ tw ≤ 2000) ?_ ?_)
      · array_get_dec
        refine ⟨fun _ => ?_, fun _ => ⟨0, _, rfl, by omega, by omega, by omega⟩⟩
        array_get_dec
        exact ⟨1, v2 * sc, rfl, by omega, by omega, by omega⟩
      rintro _ ⟨t, tw, rfl, t1, t2, t3⟩
      refine ss_seq (ss_cut (fun z => ∃ t tw, z = [some (.int c), some (.int (m : Int)), some (.int sc), some (iL (LM m)), some (.int (k : Int)), some (iL vs), some (.lst (ps.map pcD)), some (.tup (tieL ⟨0, t, tw, [], []⟩)), z8, z9] ∧ t ≤ 2 ∧ (t = 2 ↔ k + 1 = m) ∧ 0 ≤ tw ∧ tw ≤ 2000) ?_ ?_)
      · array_get_dec
        refine ⟨fun h => ?_, fun h => ?_⟩
        · have h := of_decide_eq_true h
          array_get_dec
          exact ⟨2, 0, rfl, by omega, by omega, by omega, by omega⟩
        · have h := of_decide_eq_false h
          exact ⟨t, tw, rfl, by omega, by omega, t2, t3⟩
      clear t1 t2 t3 t tw
      rintro _ ⟨t, tw, rfl, t1, t2, t3⟩
      refine ss_seq (ss_cut (fun z => z = [some (.int c), some (.int (m : Int)), some (.int sc), some (iL (LM m)), some (.int (k : Int)), some (iL vs), some (.lst (ps.map pcD)), some (.tup (tieL ⟨0, t, tw, [], []⟩)), some (iT []), z9]) ?_ ?_)
      · array_get_dec
        rfl
      rintro _ rfl
      refine ss_seq (ss_cut (fun z => ∃ nn : List Int, z = [some (.int c), some (.int (m : Int)), some (.int sc), some (iL (LM m)), some (.int (k : Int)), some (iL vs), some (.lst (ps.map pcD)), some (.tup (tieL ⟨0, t, tw, [], []⟩)), some (iT nn), z9] ∧ (∀ h ∈ nn, 1 ≤ h ∧ h ≤ 2000) ∧ nn.length ≤ 1) ?_ ?_)
      · array_get_dec
        refine ⟨fun _ => ?_, fun _ => ⟨[], rfl, fun h hh => (by cases hh), by simp⟩⟩
        array_get_dec
        refine ⟨[sc], rfl, fun h hh => ?_, by simp⟩
        simp only [List.mem_cons, List.not_mem_nil, or_false] at hh
        omega
      rintro _ ⟨nn, rfl, n1, n2⟩
      refine ss_seq (ss_cut (fun z => z = [some (.int c), some (.int (m : Int)), some (.int sc), some (iL (LM m)), some (.int (k : Int)), some (iL vs), some (.lst (ps.map pcD)), some (.tup (tieL ⟨0, t, tw, [], []⟩)), some (iT nn), some (iT [])]) ?_ ?_)
      · array_get_dec
        rfl
      rintro _ rfl
      refine ss_seq (ss_cut (fun z => ∃ cc : List Int, z = [some (.int c), some (.int (m : Int)), some (.int sc), some (iL (LM m)), some (.int (k : Int)), some (iL vs), some (.lst (ps.map pcD)), some (.tup (tieL ⟨0, t, tw, [], []⟩)), some (iT nn), some (iT cc)] ∧ (∀ h ∈ cc, 1 ≤ h ∧ h ≤ 2000) ∧ cc.length ≤ 1) ?_ ?_)
      · array_get_dec
        refine ⟨fun _ => ?_, fun _ => ⟨[], rfl, fun h hh => (by cases hh), by simp⟩⟩
        array_get_dec
        refine ⟨[(1 + v3 / 3) * sc], rfl, fun h hh => ?_, by simp⟩
        simp only [List.mem_cons, List.not_mem_nil, or_false] at hh
        omega
      rintro _ ⟨cc, rfl, c1, c2⟩
      have e1 : ∀ z, (ps ++ [(⟨(v0 + 1) * sc, t, tw, nn, cc⟩ : Pc)]).map pcD = z → z = ps.map pcD ++ [.tup [.int ((v0 + 1) * sc), .tup (tieL ⟨0, t, tw, [], []⟩), iT nn, iT cc]] := fun z h => by rw [← h, List.map_append]; rfl
      array_get_dec
      refine ⟨ps ++ [⟨(v0 + 1) * sc, t, tw, nn, cc⟩], some (.int (k : Int)), some (.tup (tieL ⟨0, t, tw, [], []⟩)), some (iT nn), some (iT cc), ?_, by rw [List.length_append, q1]; rfl, ?_⟩
      · rw [e1 _ rfl]
        rfl
      · intro j p hj
        by_cases hjl : j < ps.length
        · rw [List.getElem?_append_left hjl] at hj
          exact q2 j p hj
        · rw [List.getElem?_append_right (by omega)] at hj
          have : j - ps.length = 0 := by
            have := (List.getElem?_eq_some_iff.mp hj).1
            simp at this
            omega
          rw [this] at hj
          simp at hj
          subst hj
          refine ⟨⟨by dsimp only; omega, t1, t3, n1, by dsimp only; omega, c1⟩, c2, ?_⟩
          rw [show j = k by omega]
          exact t2
    · rintro z ⟨ps, z4, z7, z8, z9, rfl, q⟩
      exact ⟨ps, z4, z7, z8, z9, rfl, q⟩
  rintro _ ⟨ps, z4, z7, z8, z9, rfl, q1, q2⟩
  obtain ⟨r0, _, rfl, a0, b0, hf⟩ := hf.cons
  obtain ⟨r1, _, rfl, a1, b1, hf⟩ := hf.cons
  obtain ⟨r2, _, rfl, a2, b2, hf⟩ := hf.cons
  obtain ⟨r3, us, rfl, a3, b3, hf⟩ := hf.cons
  have i0 : atI ((r0 :: r1 :: r2 :: r3 :: us).map D.int) 0 = some (.int r0) := atI_nat (j := 0) rfl
  have i1 : atI ((r0 :: r1 :: r2 :: r3 :: us).map D.int) 1 = some (.int r1) := atI_nat (j := 1) rfl
  have i2 : atI ((r0 :: r1 :: r2 :: r3 :: us).map D.int) 2 = some (.int r2) := atI_nat (j := 2) rfl
  have i3 : atI ((r0 :: r1 :: r2 :: r3 :: us).map D.int) 3 = some (.int r3) := atI_nat (j := 3) rfl
  have m0 := mb (r0 + 1) sc (by omega) (by omega) hs.1 hs.2
  have m0' := m0.2.2 (by omega)
  have m1 := mb r1 sc (by omega) (by omega) hs.1 hs.2
  have m2 := mb r2 sc (by omega) (by omega) hs.1 hs.2
  generalize r0 :: r1 :: r2 :: r3 :: us = vs at i0 i1 i2 i3
  array_get_dec
  refine ⟨⟨(r0 + 1) * sc, r1 * sc, r2 * sc, decide (r3 = 1), ps⟩, rfl, ⟨by dsimp only; omega, by dsimp only; omega, by dsimp only; omega, fun p hp => ?_, ?_⟩, q1, fun p hp => ?_⟩
  · obtain ⟨j, hj⟩ := List.getElem?_of_mem hp
    exact (q2 j p hj).1
  · have hne : ps ≠ [] := fun z => by rw [z] at q1; simp at q1; omega
    refine ⟨ps.dropLast, ps.getLast hne, (List.dropLast_concat_getLast hne).symm, ?_, fun x hx => ?_⟩
    · refine ((q2 (ps.length - 1) _ ?_).2.2).mpr (by omega)
      rw [List.getElem?_eq_getElem (by omega), List.getLast_eq_getElem]
    · obtain ⟨j, hj⟩ := List.getElem?_of_mem hx
      have hj1 := (List.getElem?_eq_some_iff.mp hj).1
      rw [List.length_dropLast] at hj1
      rw [List.dropLast_eq_take, List.getElem?_take_of_lt (by omega)] at hj
      have h1 := q2 j x hj
      have h2 := h1.1.k
      have : x.k ≠ 2 := fun z => by have := h1.2.2.mp z; omega
      omega
  · obtain ⟨j, hj⟩ := List.getElem?_of_mem hp
    exact (q2 j p hj).2.1
theorem few_sp (bs : List Bk) (hb : ∀ b ∈ bs, BkOk b ∧ b.ps.length ≤ 4) (hl : bs.length ≤ 2) : Rs (F_l_few [bL bs]) (fun d => ∃ cs, d = bL cs ∧ WOk cs ∧ (pieces cs).length = (pieces bs).length ∧ (pieces cs).length ≤ 8) nE := by
  have hpl : ∀ k, k ≤ bs.length → (pieces (bs.take k)).length ≤ 4 * k := fun k => by
    induction k with
    | zero => intro _; simp [pieces]
    | succ k ih =>
      intro hk
      obtain ⟨b, hb'⟩ : ∃ b, bs[k]? = some b := ⟨_, List.getElem?_eq_getElem (by omega)⟩
      rw [take_snoc hb', pieces_app, pieces_cons, List.length_append, List.length_append]
      have := (hb b (List.mem_of_getElem? hb')).2
      have := ih (by omega)
      simp only [pieces, List.flatMap_nil, List.length_nil] at this ⊢
      omega
  refine rs_runT ?_
  unfold Fb_l_few
  show Ss (seqF _ _ [some (bL bs), none, none, none, none, none, none]) _ _ _ _ _
  refine ss_seq (ss_cut (fun z => z = [some (bL bs), some (.int ((figs []).length : Nat)), none, none, none, none, none]) ?_ ?_)
  · array_get_dec
    rfl
  rintro _ rfl
  refine ss_seq (ss_cut (fun z => z = [some (bL bs), some (.int ((figs []).length : Nat)), some (bL []), none, none, none, none]) ?_ ?_)
  · array_get_dec
    rfl
  rintro _ rfl
  refine ss_seq (ss_cut (fun z => ∃ (cs : List Bk) (x3 x4 x5 x6 : Option D), z = [some (bL bs), some (.int ((figs cs).length : Nat)), some (bL cs), x3, x4, x5, x6] ∧ (∀ b ∈ cs, BkOk b) ∧ (figs cs).length ≤ 4 ∧ (pieces cs).length = (pieces bs).length ∧ cs.length ≤ bs.length) ?_ ?_)
  · refine ss_each bkD bs (fun i z => ∃ (cs : List Bk) (x3 x4 x5 x6 : Option D), z = [some (bL bs), some (.int ((figs cs).length : Nat)), some (bL cs), x3, x4, x5, x6] ∧ (∀ b ∈ cs, BkOk b) ∧ (figs cs).length ≤ 4 ∧ (pieces cs).length = (pieces (bs.take i)).length ∧ cs.length ≤ i) ?_ ⟨[], _, _, _, _, rfl, fun b hb => (by cases hb), by simp [figs, pieces], rfl, Nat.zero_le _⟩ ?_ ?_
    · array_get_dec
      rfl
    · rintro i b z hi ⟨cs, x3, x4, x5, x6, rfl, g1, g2, g3, g4⟩
      have hil := (List.getElem?_eq_some_iff.mp hi).1
      obtain ⟨hbo, hb4⟩ := hb b (List.mem_of_getElem? hi)
      obtain ⟨F, hF⟩ : ∃ F, (figs cs).length = F := ⟨_, rfl⟩
      rw [hF] at g2 ⊢
      unfold Lp_l_few_2
      show Ss (seqF _ _ [some (bL bs), some (.int (F : Nat)), some (bL cs), some (bkD b), x4, x5, x6]) _ _ _ _ _
      refine ss_seq (ss_cut (fun z => z = [some (bL bs), some (.int (F : Nat)), some (bL cs), some (bkD b), some (.lst (([] : List Pc).map pcD)), x5, x6]) ?_ ?_)
      · array_get_dec
        rfl
      rintro _ rfl
      refine ss_seq (ss_cut (fun z => ∃ (qs : List Pc) (y5 y6 : Option D), z = [some (bL bs), some (.int ((F + (qs.flatMap (·.cs)).length : Nat) : Int)), some (bL cs), some (bkD b), some (.lst (qs.map pcD)), y5, y6] ∧ F + (qs.flatMap (·.cs)).length ≤ 4 ∧ qs.length = b.ps.length ∧ ∀ (j : Nat) (q : Pc), qs[j]? = some q → PcOk q ∧ ∃ p : Pc, b.ps[j]? = some p ∧ q.k = p.k) ?_ ?_)
      · refine ss_eachT pcD b.ps (fun j z => ∃ (qs : List Pc) (y5 y6 : Option D), z = [some (bL bs), some (.int ((F + (qs.flatMap (·.cs)).length : Nat) : Int)), some (bL cs), some (bkD b), some (.lst (qs.map pcD)), y5, y6] ∧ F + (qs.flatMap (·.cs)).length ≤ 4 ∧ qs.length = j ∧ ∀ (j : Nat) (q : Pc), qs[j]? = some q → PcOk q ∧ ∃ p : Pc, b.ps[j]? = some p ∧ q.k = p.k) ?_ ⟨[], _, _, rfl, by simpa using g2, rfl, fun j q h => by simp at h⟩ ?_ ?_
        · array_get_dec
          exact rs_bk4 rfl
        · rintro j p z hj ⟨qs, y5, y6, rfl, k1, k2, k3⟩
          have hjl := (List.getElem?_eq_some_iff.mp hj).1
          have hp := hbo.p p (List.mem_of_getElem? hj)
          obtain ⟨N, hN⟩ : ∃ N, F + (qs.flatMap (·.cs)).length = N := ⟨_, rfl⟩
          rw [hN] at k1 ⊢
          unfold Lp_l_few_1
          show Ss (seqF _ _ [some (bL bs), some (.int (N : Int)), some (bL cs), some (bkD b), some (.lst (qs.map pcD)), some (pcD p), y6]) _ _ _ _ _
          refine ss_seq (ss_cut (fun z => z = [some (bL bs), some (.int (N : Int)), some (bL cs), some (bkD b), some (.lst (qs.map pcD)), some (pcD p), some (iT p.cs)]) ?_ ?_)
          · array_get_dec
            refine rs_pc3 ?_
            rfl
          rintro _ rfl
          refine ss_seq (ss_cut (fun z => ∃ cc : List Int, z = [some (bL bs), some (.int (N : Int)), some (bL cs), some (bkD b), some (.lst (qs.map pcD)), some (pcD p), some (iT cc)] ∧ N + cc.length ≤ 4 ∧ ∀ h ∈ cc, 1 ≤ h ∧ h ≤ 2000) ?_ ?_)
          · unfold iT
            array_get_dec
            rw [List.length_map]
            refine ⟨fun _ => ?_, fun h => ?_⟩
            · array_get_dec
              exact ⟨[], rfl, by simpa using k1, fun h hh => by cases hh⟩
            · have h := of_decide_eq_false h
              exact ⟨p.cs, rfl, by omega, hp.c⟩
          rintro _ ⟨cc, rfl, c1, c2⟩
          refine ss_seq (ss_cut (fun z => z = [some (bL bs), some (.int ((N + cc.length : Nat) : Int)), some (bL cs), some (bkD b), some (.lst (qs.map pcD)), some (pcD p), some (iT cc)]) ?_ ?_)
          · unfold iT
            array_get_dec
            rw [List.length_map]
            rfl
          rintro _ rfl
          have e1 : ∀ z, (qs ++ [({ p with cs := cc } : Pc)]).map pcD = z → z = qs.map pcD ++ [.tup [.int p.w, .tup (tieL p), iT p.ns, iT cc]] := fun z h => by rw [← h, List.map_append]; rfl
          have e2 : F + ((qs ++ [({ p with cs := cc } : Pc)]).flatMap (·.cs)).length = N + cc.length := by
            rw [List.flatMap_append, List.length_append, ← hN]
            simp
            omega
          array_get_dec
          refine rs_pc0 ?_
          array_get_dec
          refine rs_pc1 ?_
          array_get_dec
          refine rs_pc2 ?_
          array_get_dec
          refine ⟨qs ++ [({ p with cs := cc } : Pc)], some (pcD p), some (iT cc), ?_, by rw [e2]; exact c1, by rw [List.length_append, k2]; rfl, ?_⟩
          · rw [e2, e1 _ rfl]
            rfl
          · intro l q hq
            by_cases hll : l < qs.length
            · rw [List.getElem?_append_left hll] at hq
              exact k3 l q hq
            · rw [List.getElem?_append_right (by omega)] at hq
              have : l - qs.length = 0 := by
                have := (List.getElem?_eq_some_iff.mp hq).1
                simp at this
                omega
              rw [this] at hq
              simp at hq
              subst hq
              rw [show l = j by omega]
              exact ⟨⟨hp.w, hp.k, hp.t, hp.n, hp.nl, c2⟩, p, hj, rfl⟩
        · rintro z ⟨qs, y5, y6, rfl, k⟩
          exact ⟨qs, y5, y6, rfl, k⟩
      rintro _ ⟨qs, y5, y6, rfl, k1, k2, k3⟩
      have hcb : BkOk ⟨b.h, b.ind, b.bef, b.kp, qs⟩ := by
        refine ⟨hbo.h, hbo.i, hbo.f, fun q hq => ?_, ?_⟩
        · obtain ⟨j, hj⟩ := List.getElem?_of_mem hq
          exact (k3 j q hj).1
        · obtain ⟨ls, e, he, h2, h3⟩ := hbo.e
          have hne : qs ≠ [] := fun z => by rw [z, he] at k2; simp at k2
          have hbl : b.ps.length = ls.length + 1 := by rw [he]; simp
          refine ⟨qs.dropLast, qs.getLast hne, (List.dropLast_concat_getLast hne).symm, ?_, fun x hx => ?_⟩
          · obtain ⟨_, p, hp, hk⟩ := k3 (qs.length - 1) (qs.getLast hne) (by rw [List.getElem?_eq_getElem (by omega), List.getLast_eq_getElem])
            rw [hk]
            rw [he, show qs.length - 1 = ls.length by omega, List.getElem?_append_right (Nat.le_refl _), Nat.sub_self] at hp
            have : e = p := by simpa using hp
            rw [← this]; exact h2
          · obtain ⟨j, hj⟩ := List.getElem?_of_mem hx
            have hj1 := (List.getElem?_eq_some_iff.mp hj).1
            rw [List.length_dropLast] at hj1
            rw [List.dropLast_eq_take, List.getElem?_take_of_lt (by omega)] at hj
            obtain ⟨_, p, hp, hk⟩ := k3 j x hj
            rw [hk]
            rw [he, List.getElem?_append_left (by omega)] at hp
            exact h3 p (List.mem_of_getElem? hp)
      have e3 : (figs (cs ++ [⟨b.h, b.ind, b.bef, b.kp, qs⟩])).length = F + (qs.flatMap (·.cs)).length := by
        rw [figs_app, List.length_append, hF]
        unfold figs
        rw [pieces_cons]
        simp [pieces]
      have e4 : bL (cs ++ [⟨b.h, b.ind, b.bef, b.kp, qs⟩]) = .lst (cs.map bkD ++ [.tup [.int b.h, .int b.ind, .int b.bef, .bl b.kp, .tup (qs.map pcD)]]) := by rw [bL, List.map_append]; rfl
      have hcl : (cs.map bkD).length < 100000 := by rw [List.length_map]; omega
      array_get_dec
      refine rs_bk0 ?_
      array_get_dec
      refine rs_bk1 ?_
      array_get_dec
      refine rs_bk2 ?_
      array_get_dec
      refine rs_bk3 ?_
      array_get_dec
      refine ⟨cs ++ [⟨b.h, b.ind, b.bef, b.kp, qs⟩], some (bkD b), some (.lst (qs.map pcD)), y5, y6, ?_, ?_, by rw [e3]; exact k1, ?_, ?_⟩
      · rw [e3, e4]
        rfl
      · intro x hx
        rcases List.mem_append.mp hx with hx | hx
        · exact g1 x hx
        · simp only [List.mem_cons, List.not_mem_nil, or_false] at hx
          subst hx
          exact hcb
      · rw [take_snoc hi, pieces_app, pieces_app, pieces_cons, pieces_cons, List.length_append, List.length_append, g3]
        dsimp only
        rw [List.length_append, List.length_append, k2]
      · rw [List.length_append]; simp only [List.length_cons, List.length_nil]; omega
    · rintro z ⟨cs, x3, x4, x5, x6, rfl, g1, g2, g3, g4⟩
      rw [List.take_length] at g3
      exact ⟨cs, _, _, _, _, rfl, g1, g2, g3, g4⟩
  rintro _ ⟨cs, x3, x4, x5, x6, rfl, g1, g2, g3, g4⟩
  have := hpl bs.length (Nat.le_refl _)
  rw [List.take_length] at this
  array_get_dec
  exact ⟨cs, rfl, ⟨g1, by omega, g2⟩, g3, by omega⟩
end
section
theorem rs_st0 {st : S4} {Q : D → Prop} {E : Str → List Str → List D → Prop} (q : Q (.int (st.d : Int))) : Rs (ixD (stD st) (.int 0)) Q E := rs_ixc (ds := [.int (st.d : Int), .int st.u, .int (st.pl : Int), .bl st.o]) 0 rfl q
abbrev num8 (n : Bn) : D := .lst [.int n.rm, .int n.ht, .int n.jt, .int n.ov, .int n.kp, .int n.or, .int n.wd, .int n.wt]
def mvE (m : Mv) : D := .tup [stepD m.e m.m, stD m.n]
abbrev mE (ms : List Mv) : D := .lst (ms.map mvE)
section
variable {bs : List Bk} {e : Nat} {p q : Pc} {a s t : Nat} {b : Bk} {n : Bn} {st : S4}
theorem mEa (A B : List Mv) : mE (A ++ B) = .lst (A.map mvE ++ B.map mvE) := by rw [mE, List.map_append]
/-- the places of the law's moves: what stays -/
def mwS (n : Bn) (bs : List Bk) (st : S4) (s t : Nat) (b : Bk) (ms : List Mv) (x13 x15 x16 x17 x18 x19 : Option D) : Rho := [some (bL bs), some (.lst ((flL bs).map flD)), some (num8 n), some (stD st), some (.int (st.d : Int)), some (.int st.u), some (.int (st.pl : Int)), some (.bl st.o), some (mE ms), some (.int (s : Int)), some (.int (t : Int)), some (iL (figs bs)), some (.int (called bs st.d : Int)), x13, some (bkD b), x15, x16, x17, x18, x19]
theorem one_end {M : List Mv} (hM : M.length ≤ 1000) (hw : WOk bs) (hn : BnOk n) (hs : StOk bs st) (h : At bs st.d p a s t b) (h1 : st.d < e) (h2 : At bs (e - 1) q a s t b) {x13 x16 x17 x18 x19 : Option D} :
    Ss (Lp_l_moves_4 (mwS n bs st s t b M x13 (some (.int (e : Int))) x16 x17 x18 x19)) (fun z => ∃ x13 x15 x16 x17 x18 x19, z = mwS n bs st s t b (M ++ if okE n bs st.d s b e = true then movesTo n bs st a s t b e else []) x13 x15 x16 x17 x18 x19) (fun _ => False) (fun _ => False)
      (fun z => ∃ x13 x15 x16 x17 x18 x19, z = mwS n bs st s t b (M ++ if okE n bs st.d s b e = true then movesTo n bs st a s t b e else []) x13 x15 x16 x17 x18 x19) (fun _ => nE) := by
  have hht := hn.ht
  have hu := hs.u
  have hpl := hs.pl
  have hcl := called_le (bs := bs) st.d
  have hf := hw.f
  have hp := hw.p
  have hle := h2.le
  have hhi := h2.hi
  have hlo := h.lo
  have ho : okE n bs st.d s b e = (decide (e = st.d + 1) || decide (lineW bs st.d e s b q ≤ n.rm)) := by unfold okE LW; rw [h2.qq]
  unfold Lp_l_moves_4
  by_cases hok' : okE n bs st.d s b e = false
  · rw [hok', if_neg Bool.false_ne_true, List.append_nil]
    rw [ho, Bool.or_eq_false_iff] at hok'
    have c1 := of_decide_eq_false hok'.1
    have c2 := of_decide_eq_false hok'.2
    unfold mwS
    refine ss_seq (ss_if (rs_andc (rs_T (rs_op (rs_var rfl (rs_op (rs_var rfl (rs_c (rs_add (rs_gt (rs_asB ?_)))))))))))
    refine ⟨fun _ => ?_, fun c => absurd (of_decide_eq_false c) (by omega)⟩
    array_get_dec
    refine Rs.of (lwidth_eq hw h h1 h2) ?_
    array_get_dec
    refine ⟨fun _ => ?_, fun c => absurd (of_decide_eq_false c) (by omega)⟩
    exact ss_ct ⟨_, _, _, _, _, _, rfl⟩
  have hok : okE n bs st.d s b e = true := by simpa using hok'
  rw [if_pos hok]
  refine ss_seq (ss_cut (fun z => z = mwS n bs st s t b M x13 (some (.int (e : Int))) x16 x17 x18 x19) ?_ ?_)
  · unfold mwS
    refine ss_if (rs_andc (rs_T (rs_op (rs_var rfl (rs_op (rs_var rfl (rs_c (rs_add (rs_gt (rs_asB ?_))))))))))
    refine ⟨fun c => ?_, fun _ => ⟨fun z => (by cases z), fun _ => rfl⟩⟩
    have c := of_decide_eq_true c
    array_get_dec
    refine Rs.of (lwidth_eq hw h h1 h2) ?_
    array_get_dec
    refine ⟨fun c2 => ?_, fun _ => rfl⟩
    have c2 := of_decide_eq_true c2
    rw [ho, decide_eq_false (by omega), decide_eq_false (by omega)] at hok
    cases hok
  rintro _ rfl
  refine ss_seq (ss_cut (fun z => z = mwS n bs st s t b M x13 (some (.int (e : Int))) (some (.int b.h)) x17 x18 x19) ?_ ?_)
  · unfold mwS
    array_get_dec
    refine rs_bk0 ?_
    rfl
  rintro _ rfl
  refine ss_seq (ss_cut (fun z => z = mwS n bs st s t b M x13 (some (.int (e : Int))) (some (.int (b.h + if st.d = s then b.bef else 0))) x17 x18 x19) ?_ ?_)
  · unfold mwS
    array_get_dec
    refine ⟨fun c => ?_, fun c => ?_⟩
    · have c := of_decide_eq_true c
      have c : st.d = s := by omega
      array_get_dec
      refine rs_bk2 ?_
      array_get_dec
      rw [if_pos c]
      rfl
    · have c := of_decide_eq_false c
      have c : ¬ st.d = s := by omega
      rw [if_neg c, Int.add_zero]
      rfl
  rintro _ rfl
  refine ss_seq (ss_cut (fun z => ∃ x13, z = mwS n bs st s t b M x13 (some (.int (e : Int))) (some (.int (needW bs st.d e s b))) x17 x18 x19) ?_ ?_)
  · unfold needW
    generalize (b.h + if st.d = s then b.bef else 0) = W0
    refine ss_rng2 st.d e (fun j z => ∃ x13, z = mwS n bs st s t b M x13 (some (.int (e : Int))) (some (.int (W0 + notesH (((pieces bs).take (st.d + j)).drop st.d)))) x17 x18 x19) ?_ ?_ (by omega) (by omega) ⟨x13, ?_⟩ ?_ ?_
    · unfold mwS
      array_get_dec
      rfl
    · unfold mwS
      array_get_dec
      rfl
    · rw [Nat.add_zero, List.drop_of_length_le (by rw [List.length_take]; omega), show notesH [] = 0 from rfl, Int.add_zero]
    · rintro j z hj ⟨x13, rfl⟩
      obtain ⟨x, hx⟩ := h.mate (j := st.d + j) (by omega) (by omega)
      rw [show st.d + (j + 1) = st.d + j + 1 from by omega, slice_snoc (by omega) hx.pp, notes_app, ← Int.add_assoc, show notesH [x] = x.ns.sum from by unfold notesH; simp]
      unfold Lp_l_moves_2 mwS
      array_get_dec
      refine rs_ixL (at_fl hx rfl) ?_
      array_get_dec
      refine rs_fl0 ?_
      array_get_dec
      refine rs_pc2 ?_
      unfold iT
      array_get_dec
      exact ⟨_, rfl⟩
    · rintro z ⟨x13, rfl⟩
      rw [show st.d + (e - st.d) = e from by omega]
      exact ⟨x13, rfl⟩
  clear x13
  rintro _ ⟨x13, rfl⟩
  refine ss_seq (ss_cut (fun z => z = mwS n bs st s t b M x13 (some (.int (e : Int))) (some (.int (needW bs st.d e s b))) (some (.bl (opensB st.d e s t))) x18 x19) ?_ ?_)
  · unfold mwS
    array_get_dec
    rw [opens_eq (by omega) (by omega)]
    rfl
  rintro _ rfl
  obtain ⟨N, hN⟩ : ∃ N, needW bs st.d e s b = N := ⟨_, rfl⟩
  obtain ⟨C, hC⟩ : ∃ C, CW n bs st.d e s t b = C := ⟨_, rfl⟩
  obtain ⟨O, hO⟩ : ∃ O, opensB st.d e s t = O := ⟨_, rfl⟩
  rw [hN, hO]
  by_cases hz : st.d = 0
  · have e1 : mE (M ++ movesTo n bs st a s t b e) = .lst (M.map mvE ++ [mvE ⟨e, some 0, C, ⟨e, N, 0, O⟩⟩]) := by
      unfold movesTo
      rw [if_pos hz, hN, hC, hO, mEa]
      rfl
    refine ss_seq ?_
    unfold mwS
    rw [e1]
    array_get_dec
    refine ⟨fun _ => ?_, fun c => absurd (of_decide_eq_false c) (by omega)⟩
    refine ss_seq (ss_app (ds := M.map mvE) rfl ?_)
    array_get_dec
    exact ⟨_, _, _, _, _, _, rfl⟩
  refine ss_seq (ss_cut (fun z => z = mwS n bs st s t b M x13 (some (.int (e : Int))) (some (.int N)) (some (.bl O)) x18 x19) ?_ ?_)
  · unfold mwS
    array_get_dec
    exact ⟨fun c => absurd (of_decide_eq_true c) (by omega), fun _ => rfl⟩
  rintro _ rfl
  obtain ⟨M0, hM0⟩ : ∃ M0 : List Mv, (if st.u + N ≤ n.ht then [⟨e, none, C, ⟨e, st.u + N, st.pl, O⟩⟩] else []) = M0 := ⟨_, rfl⟩
  refine ss_seq (ss_cut (fun z => z = mwS n bs st s t b (M ++ M0) x13 (some (.int (e : Int))) (some (.int N)) (some (.bl O)) x18 x19) ?_ ?_)
  · unfold mwS
    array_get_dec
    refine ⟨fun c => ?_, fun c => ?_⟩
    · have c := of_decide_eq_true c
      rw [if_pos c] at hM0
      subst hM0
      rw [mEa]
      refine ss_app (ds := M.map mvE) rfl ?_
      array_get_dec
      rfl
    · have c := of_decide_eq_false c
      rw [if_neg c] at hM0
      subst hM0
      rw [List.append_nil]
      rfl
  rintro _ rfl
  have hM1 : M0.length ≤ 1 := by rw [← hM0]; split <;> simp
  have hmt : movesTo n bs st a s t b e = M0 ++ ((List.range (called bs st.d - st.pl + 1)).filter (fitK n bs st e s b)).map (mvK n bs st e a s t b) := by
    unfold movesTo
    rw [if_neg hz, hN, hC, hO, hM0]
  rw [hmt, ← List.append_assoc]
  have hML : (M ++ M0).length ≤ 1001 := by rw [List.length_append]; omega
  generalize M ++ M0 = M2 at hML
  refine ss_rng (called bs st.d - st.pl + 1) (fun k z => ∃ x18 x19, z = mwS n bs st s t b (M2 ++ ((List.range k).filter (fitK n bs st e s b)).map (mvK n bs st e a s t b)) x13 (some (.int (e : Int))) (some (.int N)) (some (.bl O)) x18 x19) ?_ (by omega) ⟨x18, x19, ?_⟩ ?_ ?_
  · unfold mwS
    array_get_dec
    rw [show (called bs st.d : Int) - (st.pl : Int) + 1 = ((called bs st.d - st.pl + 1 : Nat) : Int) from by omega]
  · simp
  · rintro k z hk ⟨x18, x19, rfl⟩
    have hlen : (M2 ++ ((List.range k).filter (fitK n bs st e s b)).map (mvK n bs st e a s t b)).length < 100000 := by
      have h1 := List.length_filter_le (fitK n bs st e s b) (List.range k)
      rw [List.length_range] at h1
      rw [List.length_append, List.length_map]
      omega
    rw [List.range_succ, filter_snoc, List.map_append, ← List.append_assoc]
    generalize (M2 ++ ((List.range k).filter (fitK n bs st e s b)).map (mvK n bs st e a s t b)) = M3 at hlen
    unfold Lp_l_moves_3
    show Ss (seqF _ _ (mwS n bs st s t b M3 x13 (some (.int (e : Int))) (some (.int N)) (some (.bl O)) (some (.int (k : Int))) x19)) _ _ _ _ _
    refine ss_seq (ss_cut (fun z => z = mwS n bs st s t b M3 x13 (some (.int (e : Int))) (some (.int N)) (some (.bl O)) (some (.int (k : Int))) (some (.int (topW bs st.pl k)))) ?_ ?_)
    · unfold mwS
      array_get_dec
      rw [top_cut]
      array_get_dec
      rfl
    rintro _ rfl
    have hfit : fitK n bs st e s b k = (decide ((k : Int) = 0) || decide (topW bs st.pl k + N ≤ n.ht)) := by
      unfold fitK
      rw [hN, decide_eq_decide.mpr (show k = 0 ↔ (k : Int) = 0 by omega)]
    have hmv : mvE (mvK n bs st e a s t b k) = .tup [.tup [.int (e : Int), .int (k : Int)], .tup [.int (e : Int), .int (topW bs st.pl k + N), .int ((st.pl : Int) + (k : Int)), .bl O]] := by
      unfold mvK
      rw [hN, hO]
      rfl
    rw [hfit]
    unfold mwS
    array_get_dec
    refine ⟨fun c => ?_, fun c => ?_⟩
    · rw [c, if_pos rfl, mEa]
      rw [show ([k].map (mvK n bs st e a s t b)).map mvE = [mvE (mvK n bs st e a s t b k)] from rfl, hmv]
      refine ss_app (ds := M3.map mvE) rfl ?_
      array_get_dec
      exact ⟨_, _, rfl⟩
    · rw [c, if_neg Bool.false_ne_true, List.map_nil, List.append_nil]
      exact ⟨_, _, rfl⟩
  · rintro z ⟨x18, x19, rfl⟩
    exact ⟨_, _, _, _, _, _, rfl⟩
theorem fl_at {i : Nat} (hi : i < (pieces bs).length) : ∃ x a s t b, At bs i x a s t b := at_ex hi
theorem lmoves_eq (hw : WOk bs) (hn : BnOk n) (hs : StOk bs st) (h : At bs st.d p a s t b) : F_l_moves [bL bs, .lst ((flL bs).map flD), num8 n, stD st] = .ok (mE (movesAt n bs st a s t b)) := Rs.eq (by
  have hlt : st.d < (pieces bs).length := by have := h.hi; have := h.le; omega
  have hp := hw.p
  have hrm := hn.rm
  have hlo := h.lo
  have hhi := h.hi
  have hle := h.le
  have hf4 := hw.f
  refine rs_runT ?_
  unfold Fb_l_moves
  show Ss (seqF _ _ [some (bL bs), some (.lst ((flL bs).map flD)), some (num8 n), some (stD st), none, none, none, none, none, none, none, none, none, none, none, none, none, none, none, none]) _ _ _ _ _
  refine ss_seq (ss_cut (fun z => z = [some (bL bs), some (.lst ((flL bs).map flD)), some (num8 n), some (stD st), some (.int (st.d : Int)), some (.int st.u), some (.int (st.pl : Int)), some (.bl st.o), none, none, none, none, none, none, none, none, none, none, none, none]) ?_ ?_)
  · exact ss_asg (rs_var rfl ⟨_, rfl, rfl⟩)
  rintro _ rfl
  refine ss_seq (ss_cut (fun z => z = [some (bL bs), some (.lst ((flL bs).map flD)), some (num8 n), some (stD st), some (.int (st.d : Int)), some (.int st.u), some (.int (st.pl : Int)), some (.bl st.o), some (mE []), none, none, none, none, none, none, none, none, none, none, none]) ?_ ?_)
  · array_get_dec
    rfl
  rintro _ rfl
  refine ss_seq (ss_cut (fun z => z = [some (bL bs), some (.lst ((flL bs).map flD)), some (num8 n), some (stD st), some (.int (st.d : Int)), some (.int st.u), some (.int (st.pl : Int)), some (.bl st.o), some (mE []), none, none, none, none, none, none, none, none, none, none, none]) ?_ ?_)
  · array_get_dec
    rw [List.length_map, flA_len]
    exact ⟨fun c => absurd (of_decide_eq_true c) (by omega), fun _ => rfl⟩
  rintro _ rfl
  refine ss_seq (ss_cut (fun z => z = [some (bL bs), some (.lst ((flL bs).map flD)), some (num8 n), some (stD st), some (.int (st.d : Int)), some (.int st.u), some (.int (st.pl : Int)), some (.bl st.o), some (mE []), some (.int (s : Int)), some (.int (t : Int)), none, none, none, none, none, none, none, none, none]) ?_ ?_)
  · array_get_dec
    refine rs_ixL (at_fl h rfl) ?_
    array_get_dec
    refine rs_fl2 ?_
    array_get_dec
    refine rs_ixL (at_fl h rfl) ?_
    array_get_dec
    refine rs_fl3 ?_
    rfl
  rintro _ rfl
  refine ss_seq (ss_cut (fun z => z = [some (bL bs), some (.lst ((flL bs).map flD)), some (num8 n), some (stD st), some (.int (st.d : Int)), some (.int st.u), some (.int (st.pl : Int)), some (.bl st.o), some (mE []), some (.int (s : Int)), some (.int (t : Int)), some (iL []), none, none, none, none, none, none, none, none]) ?_ ?_)
  · array_get_dec
    rfl
  rintro _ rfl
  refine ss_seq (ss_cut (fun z => z = [some (bL bs), some (.lst ((flL bs).map flD)), some (num8 n), some (stD st), some (.int (st.d : Int)), some (.int st.u), some (.int (st.pl : Int)), some (.bl st.o), some (mE []), some (.int (s : Int)), some (.int (t : Int)), some (iL []), some (.int 0), none, none, none, none, none, none, none]) ?_ ?_)
  · array_get_dec
    rfl
  rintro _ rfl
  refine ss_seq (ss_cut (fun z => ∃ x13, z = [some (bL bs), some (.lst ((flL bs).map flD)), some (num8 n), some (stD st), some (.int (st.d : Int)), some (.int st.u), some (.int (st.pl : Int)), some (.bl st.o), some (mE []), some (.int (s : Int)), some (.int (t : Int)), some (iL (figs bs)), some (.int (called bs st.d : Int)), x13, none, none, none, none, none, none]) ?_ ?_)
  · refine ss_rng (pieces bs).length (fun j z => ∃ x13, z = [some (bL bs), some (.lst ((flL bs).map flD)), some (num8 n), some (stD st), some (.int (st.d : Int)), some (.int st.u), some (.int (st.pl : Int)), some (.bl st.o), some (mE []), some (.int (s : Int)), some (.int (t : Int)), some (iL (((pieces bs).take j).flatMap (·.cs))), some (.int (called bs (min j st.d) : Int)), x13, none, none, none, none, none, none]) ?_ (by omega) ⟨none, rfl⟩ ?_ ?_
    · array_get_dec
      rw [List.length_map, flA_len]
    · rintro j z hj ⟨x13, rfl⟩
      obtain ⟨x, a', s', t', b', hx⟩ := fl_at (bs := bs) hj
      have hcj := called_le (bs := bs) (j + 1)
      unfold Lp_l_moves_1
      show Ss (seqF _ _ [some (bL bs), some (.lst ((flL bs).map flD)), some (num8 n), some (stD st), some (.int (st.d : Int)), some (.int st.u), some (.int (st.pl : Int)), some (.bl st.o), some (mE []), some (.int (s : Int)), some (.int (t : Int)), some (iL (((pieces bs).take j).flatMap (·.cs))), some (.int (called bs (min j st.d) : Int)), some (.int (j : Int)), none, none, none, none, none, none]) _ _ _ _ _
      have hcs : called bs (j + 1) = called bs j + x.cs.length := by
        unfold called
        rw [take_snoc hx.pp, List.flatMap_append, List.length_append]
        simp
      have hfs : ((pieces bs).take (j + 1)).flatMap (·.cs) = ((pieces bs).take j).flatMap (·.cs) ++ x.cs := by
        rw [take_snoc hx.pp, List.flatMap_append]
        simp
      have hfl : (((pieces bs).take j).flatMap (·.cs)).length + x.cs.length ≤ 4 := by
        have : (((pieces bs).take (j + 1)).flatMap (·.cs)).length ≤ (figs bs).length := hcj
        rw [hfs, List.length_append] at this
        omega
      refine ss_seq (ss_cut (fun z => z = [some (bL bs), some (.lst ((flL bs).map flD)), some (num8 n), some (stD st), some (.int (st.d : Int)), some (.int st.u), some (.int (st.pl : Int)), some (.bl st.o), some (mE []), some (.int (s : Int)), some (.int (t : Int)), some (iL (((pieces bs).take j).flatMap (·.cs))), some (.int (called bs (min (j + 1) st.d) : Int)), some (.int (j : Int)), none, none, none, none, none, none]) ?_ ?_)
      · array_get_dec
        refine ⟨fun c => ?_, fun c => ?_⟩
        · have c := of_decide_eq_true c
          array_get_dec
          refine rs_ixL (at_fl hx rfl) ?_
          array_get_dec
          refine rs_fl0 ?_
          array_get_dec
          refine rs_pc3 ?_
          unfold iT
          array_get_dec
          rw [List.length_map, show min (j + 1) st.d = j + 1 by omega, show min j st.d = j by omega, hcs, Int.natCast_add]
          rfl
        · have c := of_decide_eq_false c
          rw [show min (j + 1) st.d = st.d by omega, show min j st.d = st.d by omega]
          rfl
      rintro _ rfl
      rw [hfs]
      generalize ((pieces bs).take j).flatMap (·.cs) = Y at hfl
      array_get_dec
      refine rs_ixL (at_fl hx rfl) ?_
      array_get_dec
      refine rs_fl0 ?_
      array_get_dec
      refine rs_pc3 ?_
      unfold iT
      array_get_dec
      rw [show iL (Y ++ x.cs) = .lst (Y.map D.int ++ x.cs.map D.int) from by rw [iL, List.map_append]]
      exact ⟨_, rfl⟩
    · rintro z ⟨x13, rfl⟩
      rw [List.take_length, show min (pieces bs).length st.d = st.d by omega]
      exact ⟨x13, rfl⟩
  rintro _ ⟨x13, rfl⟩
  refine ss_seq (ss_cut (fun z => z = mwS n bs st s t b [] x13 none none none none none) ?_ ?_)
  · unfold mwS
    array_get_dec
    refine rs_ixL (at_fl h rfl) ?_
    array_get_dec
    refine rs_fl1 ?_
    exact rs_ixL (d := bkD b) (atI_nat (by rw [List.getElem?_map, h.bb]; rfl)) rfl
  rintro _ rfl
  refine ss_seq (ss_cut (fun z => ∃ x13 x15 x16 x17 x18 x19, z = mwS n bs st s t b (movesAt n bs st a s t b) x13 x15 x16 x17 x18 x19) ?_ ?_)
  · unfold movesAt endsL
    refine ss_rng2 (st.d + 1) (t + 1) (fun j z => ∃ x13 x15 x16 x17 x18 x19, z = mwS n bs st s t b (((List.range' (st.d + 1) j).filter (okE n bs st.d s b)).flatMap (movesTo n bs st a s t b)) x13 x15 x16 x17 x18 x19) ?_ ?_ (by omega) (by omega) ⟨_, _, _, _, _, _, rfl⟩ ?_ ?_
    · unfold mwS
      array_get_dec
      rfl
    · unfold mwS
      array_get_dec
      rfl
    · rintro j z hj ⟨x13, x15, x16, x17, x18, x19, rfl⟩
      obtain ⟨q, hq⟩ := h.mate (j := st.d + 1 + j - 1) (by omega) (by omega)
      have hlen : (((List.range' (st.d + 1) j).filter (okE n bs st.d s b)).flatMap (movesTo n bs st a s t b)).length ≤ 1000 := moves_len n bs hw st a s t b _ (by
        have h1 := List.length_filter_le (okE n bs st.d s b) (List.range' (st.d + 1) j)
        rw [List.length_range'] at h1
        omega)
      rw [range'_snoc, filter_snoc, List.flatMap_append]
      have hfm : (if okE n bs st.d s b (st.d + 1 + j) = true then [st.d + 1 + j] else []).flatMap (movesTo n bs st a s t b) = if okE n bs st.d s b (st.d + 1 + j) = true then movesTo n bs st a s t b (st.d + 1 + j) else [] := by
        split <;> simp
      rw [hfm]
      exact (one_end (x13 := x13) (x16 := x16) (x17 := x17) (x18 := x18) (x19 := x19) hlen hw hn hs h (by omega) hq).imp (fun _ z => z) (fun _ z => z.elim) (fun _ z => z.elim) (fun _ z => z) (fun _ _ _ _ z => z.elim)
    · rintro z ⟨x13, x15, x16, x17, x18, x19, rfl⟩
      rw [show t + 1 - (st.d + 1) = t - st.d from by omega]
      exact ⟨_, _, _, _, _, _, rfl⟩
  rintro _ ⟨x13', x15, x16, x17, x18, x19, rfl⟩
  unfold mwS
  array_get_dec
  rfl)
theorem lmoves_end (h : st.d = (pieces bs).length) : F_l_moves [bL bs, .lst ((flL bs).map flD), num8 n, stD st] = .ok (mE []) := Rs.eq (by
  refine rs_runT ?_
  unfold Fb_l_moves
  show Ss (seqF _ _ [some (bL bs), some (.lst ((flL bs).map flD)), some (num8 n), some (stD st), none, none, none, none, none, none, none, none, none, none, none, none, none, none, none, none]) _ _ _ _ _
  refine ss_seq (ss_cut (fun z => z = [some (bL bs), some (.lst ((flL bs).map flD)), some (num8 n), some (stD st), some (.int (st.d : Int)), some (.int st.u), some (.int (st.pl : Int)), some (.bl st.o), none, none, none, none, none, none, none, none, none, none, none, none]) ?_ ?_)
  · exact ss_asg (rs_var rfl ⟨_, rfl, rfl⟩)
  rintro _ rfl
  refine ss_seq (ss_cut (fun z => z = [some (bL bs), some (.lst ((flL bs).map flD)), some (num8 n), some (stD st), some (.int (st.d : Int)), some (.int st.u), some (.int (st.pl : Int)), some (.bl st.o), some (mE []), none, none, none, none, none, none, none, none, none, none, none]) ?_ ?_)
  · array_get_dec
    rfl
  rintro _ rfl
  refine ss_seq ?_
  array_get_dec
  rw [List.length_map, flA_len]
  refine ⟨fun _ => ?_, fun c => absurd (of_decide_eq_false c) (by omega)⟩
  array_get_dec
  rfl)
theorem lmoves (hw : WOk bs) (hn : BnOk n) (hs : StOk bs st) : F_l_moves [bL bs, .lst ((flL bs).map flD), num8 n, stD st] = .ok (mE (movesS n bs st)) := by
  rcases movesS_cases hs with h | ⟨p, a, s, t, b, h⟩
  · rw [movesS_end h]; exact lmoves_end h
  · rw [movesS_at h]; exact lmoves_eq hw hn hs h
end
end
section
inductive Pr where
  | lo (k : Int)
  | kp
  | orp
  | wid
  | em (k : Int)
  | fi
def prD : Pr → D
  | .lo k => .tup [.str (Sg [108, 111, 111, 115, 101]), .int k]
  | .kp => .tup [.str (Sg [107, 101, 101, 112])]
  | .orp => .tup [.str (Sg [111, 114, 112, 104, 97, 110])]
  | .wid => .tup [.str (Sg [119, 105, 100, 111, 119])]
  | .em k => .tup [.str (Sg [101, 109, 112, 116, 121]), .int k]
  | .fi => .tup [.str (Sg [102, 105, 116, 115])]
def nonC (c : Option Int) (d : Nat) : Bool := c.isNone || decide (d = 0)
def forb (n : Bn) (bs : List Bk) (pr : Pr) (st : S4) (a s t : Nat) (b : Bk) (e : Nat) (c : Option Int) (u : Int) : Bool := match pr with
  | .lo k => decide (k < gapW n (LW bs st.d e s b) e t)
  | .fi => decide (n.rm < LW bs st.d e s b) || decide (n.ht < u)
  | .kp => if nonC c st.d = true then false else decide (st.d = s) && (bs.getD (a - 1) default).kp
  | .orp => if nonC c st.d = true then false else st.o
  | .wid => if nonC c st.d = true then false else decide (s < st.d) && decide (e = t)
  | .em k => if nonC c st.d = true then false else decide (k < n.ht - st.u)
section
variable (n : Bn) (bs : List Bk) (st : S4) (a s t : Nat) (b : Bk) (e : Nat) (c : Option Int) (u k : Int)
theorem forb_lo : forb n bs (.lo k) st a s t b e c u = decide (k < gapW n (LW bs st.d e s b) e t) := rfl
theorem forb_fi : forb n bs .fi st a s t b e c u = (decide (n.rm < LW bs st.d e s b) || decide (n.ht < u)) := rfl
theorem forb_kp : forb n bs .kp st a s t b e c u = if nonC c st.d = true then false else decide (st.d = s) && (bs.getD (a - 1) default).kp := rfl
theorem forb_orp : forb n bs .orp st a s t b e c u = if nonC c st.d = true then false else st.o := rfl
theorem forb_wid : forb n bs .wid st a s t b e c u = if nonC c st.d = true then false else decide (s < st.d) && decide (e = t) := rfl
theorem forb_em : forb n bs (.em k) st a s t b e c u = if nonC c st.d = true then false else decide (k < n.ht - st.u) := rfl
end
theorem isN_oI (c : Option Int) : isN (oI c) = c.isNone := by cases c <;> rfl
theorem nonC_p (c : Option Int) (d : Nat) : (isN (oI c) || decide ((d : Int) = 0)) = nonC c d := by
  unfold nonC
  rw [isN_oI, decide_eq_decide.mpr (show (d : Int) = 0 ↔ d = 0 by omega)]
theorem nonC_l (c : Option Int) (d : Nat) : (decide ((d : Int) = 0) || isN (oI c)) = nonC c d := by
  rw [Bool.or_comm]; exact nonC_p c d
section
variable {bs : List Bk} {e : Nat} {p q : Pc} {a s t : Nat} {b : Bk} {n : Bn} {st : S4} {sd : D} {c : Option Int} {nx : S4}
theorem isforb_eq (hw : WOk bs) (h : At bs st.d p a s t b) (h1 : st.d < e) (h2 : At bs (e - 1) q a s t b) (hsd : SdOk st sd) (pr : Pr) : F_is_forbidden [galD bs, bookD n, prD pr, sd, .tup [.int (e : Int), oI c], stD nx] = .ok (.bl (forb n bs pr st a s t b e c nx.u)) := Rs.eq (by
  have hlo := h.lo
  have hLW : LW bs st.d e s b = lineW bs st.d e s b q := by unfold LW; rw [h2.qq]
  have hsd0 : ∀ {Q : D → Prop} {E : Str → List Str → List D → Prop}, Q (.int (st.d : Int)) → Rs (ixD sd (.int 0)) Q E := fun q => rs_sdK hsd 0 rfl q
  have hsd1 : ∀ {Q : D → Prop} {E : Str → List Str → List D → Prop}, Q (.int st.u) → Rs (ixD sd (.int 1)) Q E := fun q => rs_sdK hsd 1 rfl q
  have hsd3 : ∀ {Q : D → Prop} {E : Str → List Str → List D → Prop}, Q (.bl st.o) → Rs (ixD sd (.int 3)) Q E := fun q => rs_sdK hsd 3 rfl q
  have hnx1 : ∀ {Q : D → Prop} {E : Str → List Str → List D → Prop}, Q (.int nx.u) → Rs (ixD (stD nx) (.int 1)) Q E := fun q => rs_ixc (ds := [.int (nx.d : Int), .int nx.u, .int (nx.pl : Int), .bl nx.o]) 1 rfl q
  refine rs_run ?_
  unfold Fb_is_forbidden
  show Ss (seqF _ _ [some (galD bs), some (bookD n), some (prD pr), some sd, some (.tup [.int (e : Int), oI c]), some (stD nx), none, none, none]) _ _ _ _ _
  refine ss_seq (ss_cut (fun z => z = [some (galD bs), some (bookD n), some (prD pr), some sd, some (.tup [.int (e : Int), oI c]), some (stD nx), some (.int (a : Int)), some (.int (s : Int)), some (.int (t : Int))]) ?_ ?_)
  · exact ss_asg (rs_blk h (rs_var rfl rfl) (rs_op (rs_var rfl (rs_c (hsd0 rfl)))) ⟨_, rfl, rfl⟩)
  rintro _ rfl
  cases pr with
  | lo k =>
    show Ss (seqF _ _ [some (galD bs), some (bookD n), some (.tup [.str (Sg [108, 111, 111, 115, 101]), .int k]), some sd, some (.tup [.int (e : Int), oI c]), some (stD nx), some (.int (a : Int)), some (.int (s : Int)), some (.int (t : Int))]) _ _ _ _ _
    refine ss_seq (ss_if (rs_T (rs_op (rs_op (rs_var rfl (rs_c (rs_ixc 0 rfl (rs_c (rs_eqS (rs_asB ⟨fun _ => ?_, fun z => (by simp at z)⟩))))))))))
    array_get_dec
    refine hsd0 ?_
    array_get_dec
    refine Rs.of (gap_eq hw h h1 h2) ?_
    array_get_dec
    rw [forb_lo]
    rw [hLW]
  | fi =>
    show Ss (seqF _ _ [some (galD bs), some (bookD n), some (.tup [.str (Sg [102, 105, 116, 115])]), some sd, some (.tup [.int (e : Int), oI c]), some (stD nx), some (.int (a : Int)), some (.int (s : Int)), some (.int (t : Int))]) _ _ _ _ _
    refine ss_seq (ss_if (rs_T (rs_op (rs_op (rs_var rfl (rs_c (rs_ixc 0 rfl (rs_c (rs_eqS (rs_asB ⟨fun z => (by simp at z), fun _ => ?_⟩))))))))))
    refine ss_nx ?_
    refine ss_seq (ss_if (rs_T (rs_op (rs_op (rs_var rfl (rs_c (rs_ixc 0 rfl (rs_c (rs_eqS (rs_asB ⟨fun _ => ?_, fun z => (by simp at z)⟩))))))))))
    array_get_dec
    refine hsd0 ?_
    array_get_dec
    refine Rs.of (linew_eq hw h h1 h2) ?_
    array_get_dec
    refine rs_rm ?_
    array_get_dec
    refine hnx1 ?_
    array_get_dec
    refine rs_ht ?_
    array_get_dec
    rw [forb_fi]
    rw [hLW]
  | kp =>
    show Ss (seqF _ _ [some (galD bs), some (bookD n), some (.tup [.str (Sg [107, 101, 101, 112])]), some sd, some (.tup [.int (e : Int), oI c]), some (stD nx), some (.int (a : Int)), some (.int (s : Int)), some (.int (t : Int))]) _ _ _ _ _
    refine ss_seq (ss_if (rs_T (rs_op (rs_op (rs_var rfl (rs_c (rs_ixc 0 rfl (rs_c (rs_eqS (rs_asB ⟨fun z => (by simp at z), fun _ => ?_⟩))))))))))
    refine ss_nx ?_
    refine ss_seq (ss_if (rs_T (rs_op (rs_op (rs_var rfl (rs_c (rs_ixc 0 rfl (rs_c (rs_eqS (rs_asB ⟨fun z => (by simp at z), fun _ => ?_⟩))))))))))
    refine ss_nx ?_
    refine ss_seq (ss_if (rs_or (rs_T (rs_op (rs_op (rs_var rfl (rs_c (rs_ixc 1 rfl (rs_c (rs_is (rs_asB (rs_T (rs_op (rs_op (rs_var rfl (rs_c (hsd0 (rs_c (rs_eqI (rs_asB ?_))))))))))))))))))))
    rw [nonC_p]
    rw [forb_kp]
    refine ⟨fun z => ?_, fun z => ?_⟩
    · array_get_dec
      rw [if_pos z]
    · rw [z, if_neg Bool.false_ne_true]
      have hd : 0 < st.d := by
        unfold nonC at z
        rw [Bool.or_eq_false_iff] at z
        have := of_decide_eq_false z.2
        omega
      refine ss_seq (ss_if (rs_T (rs_op (rs_op (rs_var rfl (rs_c (rs_ixc 0 rfl (rs_c (rs_eqS (rs_asB ⟨fun _ => ?_, fun z => (by simp at z)⟩))))))))))
      refine ss_ret (rs_andVc (rs_op (rs_op (rs_var rfl (rs_c (hsd0 (rs_var rfl (rs_eqI (rs_asB ⟨fun y => ?_, fun y => ?_⟩)))))))))
      · have y := of_decide_eq_true y
        have y : st.d = s := by omega
        rw [decide_eq_true y]
        subst y
        obtain ⟨q', s', b', hq, ha⟩ := at_prev hw h hd
        have hg : bs.getD (a - 1) default = b' := by rw [List.getD_eq_getElem?_getD, hq.bb]; rfl
        array_get_dec
        refine rs_listG hw ?_
        array_get_dec
        refine rs_ixL (d := bkD b') ?_ ?_
        · rw [show (a : Int) - 1 = ((a - 1 : Nat) : Int) from by omega]
          exact atI_nat (by rw [List.getElem?_map, hq.bb]; rfl)
        array_get_dec
        refine rs_bk3 ?_
        rw [hg]
        rfl
      · have y := of_decide_eq_false y
        rw [decide_eq_false (show ¬ st.d = s by omega)]
        rfl
  | orp =>
    show Ss (seqF _ _ [some (galD bs), some (bookD n), some (.tup [.str (Sg [111, 114, 112, 104, 97, 110])]), some sd, some (.tup [.int (e : Int), oI c]), some (stD nx), some (.int (a : Int)), some (.int (s : Int)), some (.int (t : Int))]) _ _ _ _ _
    refine ss_seq (ss_if (rs_T (rs_op (rs_op (rs_var rfl (rs_c (rs_ixc 0 rfl (rs_c (rs_eqS (rs_asB ⟨fun z => (by simp at z), fun _ => ?_⟩))))))))))
    refine ss_nx ?_
    refine ss_seq (ss_if (rs_T (rs_op (rs_op (rs_var rfl (rs_c (rs_ixc 0 rfl (rs_c (rs_eqS (rs_asB ⟨fun z => (by simp at z), fun _ => ?_⟩))))))))))
    refine ss_nx ?_
    refine ss_seq (ss_if (rs_or (rs_T (rs_op (rs_op (rs_var rfl (rs_c (rs_ixc 1 rfl (rs_c (rs_is (rs_asB (rs_T (rs_op (rs_op (rs_var rfl (rs_c (hsd0 (rs_c (rs_eqI (rs_asB ?_))))))))))))))))))))
    rw [nonC_p]
    rw [forb_orp]
    refine ⟨fun z => ?_, fun z => ?_⟩
    · array_get_dec
      rw [if_pos z]
    · rw [z, if_neg Bool.false_ne_true]
      refine ss_seq (ss_if (rs_T (rs_op (rs_op (rs_var rfl (rs_c (rs_ixc 0 rfl (rs_c (rs_eqS (rs_asB ⟨fun z => (by simp at z), fun _ => ?_⟩))))))))))
      refine ss_nx ?_
      refine ss_seq (ss_if (rs_T (rs_op (rs_op (rs_var rfl (rs_c (rs_ixc 0 rfl (rs_c (rs_eqS (rs_asB ⟨fun _ => ?_, fun z => (by simp at z)⟩))))))))))
      exact ss_ret (rs_op (rs_var rfl (rs_c (hsd3 rfl))))
  | wid =>
    show Ss (seqF _ _ [some (galD bs), some (bookD n), some (.tup [.str (Sg [119, 105, 100, 111, 119])]), some sd, some (.tup [.int (e : Int), oI c]), some (stD nx), some (.int (a : Int)), some (.int (s : Int)), some (.int (t : Int))]) _ _ _ _ _
    refine ss_seq (ss_if (rs_T (rs_op (rs_op (rs_var rfl (rs_c (rs_ixc 0 rfl (rs_c (rs_eqS (rs_asB ⟨fun z => (by simp at z), fun _ => ?_⟩))))))))))
    refine ss_nx ?_
    refine ss_seq (ss_if (rs_T (rs_op (rs_op (rs_var rfl (rs_c (rs_ixc 0 rfl (rs_c (rs_eqS (rs_asB ⟨fun z => (by simp at z), fun _ => ?_⟩))))))))))
    refine ss_nx ?_
    refine ss_seq (ss_if (rs_or (rs_T (rs_op (rs_op (rs_var rfl (rs_c (rs_ixc 1 rfl (rs_c (rs_is (rs_asB (rs_T (rs_op (rs_op (rs_var rfl (rs_c (hsd0 (rs_c (rs_eqI (rs_asB ?_))))))))))))))))))))
    rw [nonC_p]
    rw [forb_wid]
    refine ⟨fun z => ?_, fun z => ?_⟩
    · array_get_dec
      rw [if_pos z]
    · rw [z, if_neg Bool.false_ne_true]
      refine ss_seq (ss_if (rs_T (rs_op (rs_op (rs_var rfl (rs_c (rs_ixc 0 rfl (rs_c (rs_eqS (rs_asB ⟨fun z => (by simp at z), fun _ => ?_⟩))))))))))
      refine ss_nx ?_
      refine ss_seq (ss_if (rs_T (rs_op (rs_op (rs_var rfl (rs_c (rs_ixc 0 rfl (rs_c (rs_eqS (rs_asB ⟨fun z => (by simp at z), fun _ => ?_⟩))))))))))
      refine ss_nx ?_
      refine ss_seq (ss_if (rs_T (rs_op (rs_op (rs_var rfl (rs_c (rs_ixc 0 rfl (rs_c (rs_eqS (rs_asB ⟨fun _ => ?_, fun z => (by simp at z)⟩))))))))))
      refine ss_ret (rs_andV (rs_op (rs_var rfl (rs_op (rs_var rfl (rs_c (hsd0 (rs_lt (rs_asB (rs_op (rs_op (rs_var rfl (rs_c (rs_ixc 0 rfl (rs_var rfl (rs_eqI (rs_asB ?_)))))))))))))))))
      rw [decide_eq_decide.mpr (show (s : Int) < (st.d : Int) ↔ s < st.d by omega), decide_eq_decide.mpr (show (e : Int) = (t : Int) ↔ e = t by omega)]
  | em k =>
    show Ss (seqF _ _ [some (galD bs), some (bookD n), some (.tup [.str (Sg [101, 109, 112, 116, 121]), .int k]), some sd, some (.tup [.int (e : Int), oI c]), some (stD nx), some (.int (a : Int)), some (.int (s : Int)), some (.int (t : Int))]) _ _ _ _ _
    refine ss_seq (ss_if (rs_T (rs_op (rs_op (rs_var rfl (rs_c (rs_ixc 0 rfl (rs_c (rs_eqS (rs_asB ⟨fun z => (by simp at z), fun _ => ?_⟩))))))))))
    refine ss_nx ?_
    refine ss_seq (ss_if (rs_T (rs_op (rs_op (rs_var rfl (rs_c (rs_ixc 0 rfl (rs_c (rs_eqS (rs_asB ⟨fun z => (by simp at z), fun _ => ?_⟩))))))))))
    refine ss_nx ?_
    refine ss_seq (ss_if (rs_or (rs_T (rs_op (rs_op (rs_var rfl (rs_c (rs_ixc 1 rfl (rs_c (rs_is (rs_asB (rs_T (rs_op (rs_op (rs_var rfl (rs_c (hsd0 (rs_c (rs_eqI (rs_asB ?_))))))))))))))))))))
    rw [nonC_p]
    rw [forb_em]
    refine ⟨fun z => ?_, fun z => ?_⟩
    · array_get_dec
      rw [if_pos z]
    · rw [z, if_neg Bool.false_ne_true]
      refine ss_seq (ss_if (rs_T (rs_op (rs_op (rs_var rfl (rs_c (rs_ixc 0 rfl (rs_c (rs_eqS (rs_asB ⟨fun z => (by simp at z), fun _ => ?_⟩))))))))))
      refine ss_nx ?_
      refine ss_seq (ss_if (rs_T (rs_op (rs_op (rs_var rfl (rs_c (rs_ixc 0 rfl (rs_c (rs_eqS (rs_asB ⟨fun z => (by simp at z), fun _ => ?_⟩))))))))))
      refine ss_nx ?_
      refine ss_seq (ss_if (rs_T (rs_op (rs_op (rs_var rfl (rs_c (rs_ixc 0 rfl (rs_c (rs_eqS (rs_asB ⟨fun z => (by simp at z), fun _ => ?_⟩))))))))))
      refine ss_nx ?_
      refine ss_ret (rs_op (rs_op (rs_un (rs_var rfl (rs_ht (rs_op (rs_var rfl (rs_c (hsd1 (rs_sub (rs_op (rs_var rfl (rs_c (rs_ixc 1 rfl (rs_gt ?_)))))))))))))))
      rfl)
theorem lforb_eq (hw : WOk bs) (h : At bs st.d p a s t b) (h1 : st.d < e) (h2 : At bs (e - 1) q a s t b) (pr : Pr) (hpr : ∀ k, pr = .lo k → 0 ≤ k) : F_l_forbidden [bL bs, .lst ((flL bs).map flD), num8 n, prD pr, stD st, .tup [.int (e : Int), oI c], stD nx] = .ok (.bl (forb n bs pr st a s t b e c nx.u)) := Rs.eq (by
  have hlo := h.lo
  have hLW : LW bs st.d e s b = lineW bs st.d e s b q := by unfold LW; rw [h2.qq]
  have hsd1 : ∀ {Q : D → Prop} {E : Str → List Str → List D → Prop}, Q (.int st.u) → Rs (ixD (stD st) (.int 1)) Q E := fun q => rs_ixc (ds := [.int (st.d : Int), .int st.u, .int (st.pl : Int), .bl st.o]) 1 rfl q
  have hsd3 : ∀ {Q : D → Prop} {E : Str → List Str → List D → Prop}, Q (.bl st.o) → Rs (ixD (stD st) (.int 3)) Q E := fun q => rs_ixc (ds := [.int (st.d : Int), .int st.u, .int (st.pl : Int), .bl st.o]) 3 rfl q
  have hnx1 : ∀ {Q : D → Prop} {E : Str → List Str → List D → Prop}, Q (.int nx.u) → Rs (ixD (stD nx) (.int 1)) Q E := fun q => rs_ixc (ds := [.int (nx.d : Int), .int nx.u, .int (nx.pl : Int), .bl nx.o]) 1 rfl q
  refine rs_run ?_
  unfold Fb_l_forbidden
  show Ss (seqF _ _ [some (bL bs), some (.lst ((flL bs).map flD)), some (num8 n), some (prD pr), some (stD st), some (.tup [.int (e : Int), oI c]), some (stD nx), none, none, none, none]) _ _ _ _ _
  refine ss_seq (ss_cut (fun z => z = [some (bL bs), some (.lst ((flL bs).map flD)), some (num8 n), some (prD pr), some (stD st), some (.tup [.int (e : Int), oI c]), some (stD nx), some (.int (st.d : Int)), some (.int (s : Int)), some (.int (t : Int)), none]) ?_ ?_)
  · array_get_dec
    refine rs_st0 ?_
    array_get_dec
    refine rs_st0 ?_
    refine rs_ixL (at_fl h rfl) ?_
    array_get_dec
    refine rs_fl2 ?_
    array_get_dec
    refine rs_st0 ?_
    refine rs_ixL (at_fl h rfl) ?_
    array_get_dec
    refine rs_fl3 ?_
    rfl
  rintro _ rfl
  refine ss_seq (ss_cut (fun z => z = [some (bL bs), some (.lst ((flL bs).map flD)), some (num8 n), some (prD pr), some (stD st), some (.tup [.int (e : Int), oI c]), some (stD nx), some (.int (st.d : Int)), some (.int (s : Int)), some (.int (t : Int)), some (.int (LW bs st.d e s b))]) ?_ ?_)
  · array_get_dec
    refine Rs.of (lwidth_eq hw h h1 h2) ?_
    rw [hLW]
    rfl
  rintro _ rfl
  generalize hW : LW bs st.d e s b = W
  cases pr with
  | lo k =>
    show Ss (seqF _ _ [some (bL bs), some (.lst ((flL bs).map flD)), some (num8 n), some (.tup [.str (Sg [108, 111, 111, 115, 101]), .int k]), some (stD st), some (.tup [.int (e : Int), oI c]), some (stD nx), some (.int (st.d : Int)), some (.int (s : Int)), some (.int (t : Int)), some (.int W)]) _ _ _ _ _
    refine ss_seq (ss_if (rs_T (rs_op (rs_op (rs_var rfl (rs_c (rs_ixc 0 rfl (rs_c (rs_eqS (rs_asB ⟨fun _ => ?_, fun z => (by simp at z)⟩))))))))))
    array_get_dec
    rw [forb_lo]
    rw [hW]
    have hk := hpr k rfl
    unfold gapW max2
    by_cases y : e = t
    · rw [if_pos y, decide_eq_true (show (e : Int) = (t : Int) by omega), decide_eq_false (show ¬ k < 0 by omega)]
      rfl
    · rw [if_neg y, decide_eq_false (show ¬ (e : Int) = (t : Int) by omega)]
      show D.bl (true && decide _) = _
      rw [Bool.true_and, decide_eq_decide.mpr]
      split <;> omega
  | fi =>
    show Ss (seqF _ _ [some (bL bs), some (.lst ((flL bs).map flD)), some (num8 n), some (.tup [.str (Sg [102, 105, 116, 115])]), some (stD st), some (.tup [.int (e : Int), oI c]), some (stD nx), some (.int (st.d : Int)), some (.int (s : Int)), some (.int (t : Int)), some (.int W)]) _ _ _ _ _
    refine ss_seq (ss_if (rs_T (rs_op (rs_op (rs_var rfl (rs_c (rs_ixc 0 rfl (rs_c (rs_eqS (rs_asB ⟨fun z => (by simp at z), fun _ => ?_⟩))))))))))
    refine ss_nx ?_
    refine ss_seq (ss_if (rs_T (rs_op (rs_op (rs_var rfl (rs_c (rs_ixc 0 rfl (rs_c (rs_eqS (rs_asB ⟨fun _ => ?_, fun z => (by simp at z)⟩))))))))))
    array_get_dec
    refine hnx1 ?_
    array_get_dec
    rw [forb_fi]
    rw [hW]
  | kp =>
    show Ss (seqF _ _ [some (bL bs), some (.lst ((flL bs).map flD)), some (num8 n), some (.tup [.str (Sg [107, 101, 101, 112])]), some (stD st), some (.tup [.int (e : Int), oI c]), some (stD nx), some (.int (st.d : Int)), some (.int (s : Int)), some (.int (t : Int)), some (.int W)]) _ _ _ _ _
    refine ss_seq (ss_if (rs_T (rs_op (rs_op (rs_var rfl (rs_c (rs_ixc 0 rfl (rs_c (rs_eqS (rs_asB ⟨fun z => (by simp at z), fun _ => ?_⟩))))))))))
    refine ss_nx ?_
    refine ss_seq (ss_if (rs_T (rs_op (rs_op (rs_var rfl (rs_c (rs_ixc 0 rfl (rs_c (rs_eqS (rs_asB ⟨fun z => (by simp at z), fun _ => ?_⟩))))))))))
    refine ss_nx ?_
    refine ss_seq (ss_if (rs_or (rs_T (rs_op (rs_var rfl (rs_c (rs_eqI (rs_asB (rs_T (rs_op (rs_op (rs_var rfl (rs_c (rs_ixc 1 rfl (rs_c (rs_is (rs_asB ?_)))))))))))))))))
    rw [nonC_l]
    rw [forb_kp]
    refine ⟨fun z => ?_, fun z => ?_⟩
    · array_get_dec
      rw [if_pos z]
    · rw [z, if_neg Bool.false_ne_true]
      have hd : 0 < st.d := by
        unfold nonC at z
        rw [Bool.or_eq_false_iff] at z
        have := of_decide_eq_false z.2
        omega
      refine ss_seq (ss_if (rs_T (rs_op (rs_op (rs_var rfl (rs_c (rs_ixc 0 rfl (rs_c (rs_eqS (rs_asB ⟨fun _ => ?_, fun z => (by simp at z)⟩))))))))))
      refine ss_ret (rs_andVc (rs_op (rs_var rfl (rs_var rfl (rs_eqI (rs_asB ⟨fun y => ?_, fun y => ?_⟩))))))
      · have y := of_decide_eq_true y
        have y : st.d = s := by omega
        rw [decide_eq_true y]
        subst y
        obtain ⟨q', s', b', hq, ha⟩ := at_prev hw h hd
        have hg : bs.getD (a - 1) default = b' := by rw [List.getD_eq_getElem?_getD, hq.bb]; rfl
        array_get_dec
        refine rs_ixL (at_fl hq (by omega)) ?_
        array_get_dec
        refine rs_fl1 ?_
        refine rs_ixL (d := bkD b') (atI_nat (by rw [List.getElem?_map, hq.bb]; rfl)) ?_
        array_get_dec
        refine rs_bk3 ?_
        rw [hg]
        rfl
      · have y := of_decide_eq_false y
        rw [decide_eq_false (show ¬ st.d = s by omega)]
        rfl
  | orp =>
    show Ss (seqF _ _ [some (bL bs), some (.lst ((flL bs).map flD)), some (num8 n), some (.tup [.str (Sg [111, 114, 112, 104, 97, 110])]), some (stD st), some (.tup [.int (e : Int), oI c]), some (stD nx), some (.int (st.d : Int)), some (.int (s : Int)), some (.int (t : Int)), some (.int W)]) _ _ _ _ _
    refine ss_seq (ss_if (rs_T (rs_op (rs_op (rs_var rfl (rs_c (rs_ixc 0 rfl (rs_c (rs_eqS (rs_asB ⟨fun z => (by simp at z), fun _ => ?_⟩))))))))))
    refine ss_nx ?_
    refine ss_seq (ss_if (rs_T (rs_op (rs_op (rs_var rfl (rs_c (rs_ixc 0 rfl (rs_c (rs_eqS (rs_asB ⟨fun z => (by simp at z), fun _ => ?_⟩))))))))))
    refine ss_nx ?_
    refine ss_seq (ss_if (rs_or (rs_T (rs_op (rs_var rfl (rs_c (rs_eqI (rs_asB (rs_T (rs_op (rs_op (rs_var rfl (rs_c (rs_ixc 1 rfl (rs_c (rs_is (rs_asB ?_)))))))))))))))))
    rw [nonC_l]
    rw [forb_orp]
    refine ⟨fun z => ?_, fun z => ?_⟩
    · array_get_dec
      rw [if_pos z]
    · rw [z, if_neg Bool.false_ne_true]
      refine ss_nx ?_
      refine ss_seq (ss_if (rs_T (rs_op (rs_op (rs_var rfl (rs_c (rs_ixc 0 rfl (rs_c (rs_eqS (rs_asB ⟨fun z => (by simp at z), fun _ => ?_⟩))))))))))
      refine ss_nx ?_
      refine ss_seq (ss_if (rs_T (rs_op (rs_op (rs_var rfl (rs_c (rs_ixc 0 rfl (rs_c (rs_eqS (rs_asB ⟨fun _ => ?_, fun z => (by simp at z)⟩))))))))))
      exact ss_ret (rs_op (rs_var rfl (rs_c (hsd3 rfl))))
  | wid =>
    show Ss (seqF _ _ [some (bL bs), some (.lst ((flL bs).map flD)), some (num8 n), some (.tup [.str (Sg [119, 105, 100, 111, 119])]), some (stD st), some (.tup [.int (e : Int), oI c]), some (stD nx), some (.int (st.d : Int)), some (.int (s : Int)), some (.int (t : Int)), some (.int W)]) _ _ _ _ _
    refine ss_seq (ss_if (rs_T (rs_op (rs_op (rs_var rfl (rs_c (rs_ixc 0 rfl (rs_c (rs_eqS (rs_asB ⟨fun z => (by simp at z), fun _ => ?_⟩))))))))))
    refine ss_nx ?_
    refine ss_seq (ss_if (rs_T (rs_op (rs_op (rs_var rfl (rs_c (rs_ixc 0 rfl (rs_c (rs_eqS (rs_asB ⟨fun z => (by simp at z), fun _ => ?_⟩))))))))))
    refine ss_nx ?_
    refine ss_seq (ss_if (rs_or (rs_T (rs_op (rs_var rfl (rs_c (rs_eqI (rs_asB (rs_T (rs_op (rs_op (rs_var rfl (rs_c (rs_ixc 1 rfl (rs_c (rs_is (rs_asB ?_)))))))))))))))))
    rw [nonC_l]
    rw [forb_wid]
    refine ⟨fun z => ?_, fun z => ?_⟩
    · array_get_dec
      rw [if_pos z]
    · rw [z, if_neg Bool.false_ne_true]
      refine ss_nx ?_
      refine ss_seq (ss_if (rs_T (rs_op (rs_op (rs_var rfl (rs_c (rs_ixc 0 rfl (rs_c (rs_eqS (rs_asB ⟨fun z => (by simp at z), fun _ => ?_⟩))))))))))
      refine ss_nx ?_
      refine ss_seq (ss_if (rs_T (rs_op (rs_op (rs_var rfl (rs_c (rs_ixc 0 rfl (rs_c (rs_eqS (rs_asB ⟨fun z => (by simp at z), fun _ => ?_⟩))))))))))
      refine ss_nx ?_
      refine ss_seq (ss_if (rs_T (rs_op (rs_op (rs_var rfl (rs_c (rs_ixc 0 rfl (rs_c (rs_eqS (rs_asB ⟨fun _ => ?_, fun z => (by simp at z)⟩))))))))))
      refine ss_ret (rs_andV (rs_op (rs_var rfl (rs_var rfl (rs_neI (rs_asB (rs_op (rs_op (rs_var rfl (rs_c (rs_ixc 0 rfl (rs_var rfl (rs_eqI (rs_asB ?_))))))))))))))
      rw [decide_eq_decide.mpr (show (e : Int) = (t : Int) ↔ e = t by omega)]
      by_cases y : st.d = s
      · rw [decide_eq_true (show (st.d : Int) = (s : Int) by omega), decide_eq_false (show ¬ s < st.d by omega)]
        rfl
      · rw [decide_eq_false (show ¬ (st.d : Int) = (s : Int) by omega), decide_eq_true (show s < st.d by omega)]
        rfl
  | em k =>
    show Ss (seqF _ _ [some (bL bs), some (.lst ((flL bs).map flD)), some (num8 n), some (.tup [.str (Sg [101, 109, 112, 116, 121]), .int k]), some (stD st), some (.tup [.int (e : Int), oI c]), some (stD nx), some (.int (st.d : Int)), some (.int (s : Int)), some (.int (t : Int)), some (.int W)]) _ _ _ _ _
    refine ss_seq (ss_if (rs_T (rs_op (rs_op (rs_var rfl (rs_c (rs_ixc 0 rfl (rs_c (rs_eqS (rs_asB ⟨fun z => (by simp at z), fun _ => ?_⟩))))))))))
    refine ss_nx ?_
    refine ss_seq (ss_if (rs_T (rs_op (rs_op (rs_var rfl (rs_c (rs_ixc 0 rfl (rs_c (rs_eqS (rs_asB ⟨fun z => (by simp at z), fun _ => ?_⟩))))))))))
    refine ss_nx ?_
    refine ss_seq (ss_if (rs_or (rs_T (rs_op (rs_var rfl (rs_c (rs_eqI (rs_asB (rs_T (rs_op (rs_op (rs_var rfl (rs_c (rs_ixc 1 rfl (rs_c (rs_is (rs_asB ?_)))))))))))))))))
    rw [nonC_l]
    rw [forb_em]
    refine ⟨fun z => ?_, fun z => ?_⟩
    · array_get_dec
      rw [if_pos z]
    · rw [z, if_neg Bool.false_ne_true]
      refine ss_nx ?_
      refine ss_seq (ss_if (rs_T (rs_op (rs_op (rs_var rfl (rs_c (rs_ixc 0 rfl (rs_c (rs_eqS (rs_asB ⟨fun z => (by simp at z), fun _ => ?_⟩))))))))))
      refine ss_nx ?_
      refine ss_seq (ss_if (rs_T (rs_op (rs_op (rs_var rfl (rs_c (rs_ixc 0 rfl (rs_c (rs_eqS (rs_asB ⟨fun z => (by simp at z), fun _ => ?_⟩))))))))))
      refine ss_nx ?_
      refine ss_seq (ss_if (rs_T (rs_op (rs_op (rs_var rfl (rs_c (rs_ixc 0 rfl (rs_c (rs_eqS (rs_asB ⟨fun z => (by simp at z), fun _ => ?_⟩))))))))))
      refine ss_nx ?_
      refine ss_ret (rs_op (rs_op (rs_op (rs_var rfl (rs_c (rs_ixL (atI_nat (j := 1) rfl) (rs_op (rs_var rfl (rs_c (hsd1 (rs_sub (rs_op (rs_var rfl (rs_c (rs_ixc 1 rfl (rs_gt ?_))))))))))))))))
      rfl)
end
end
section
def trD (s : S4) (m : Mv) : D := .tup [stD s, seD (mvSp m), stD m.n]
def trip : S4 → List Mv → List D
  | _, [] => []
  | s, m :: ms => trD s m :: trip m.n ms
theorem trip_len : ∀ (s : S4) (ms : List Mv), (trip s ms).length = ms.length
  | _, [] => rfl
  | s, m :: ms => by rw [trip, List.length_cons, List.length_cons, trip_len]
theorem trip_snoc : ∀ (ms : List Mv) (s : S4) (m : Mv), trip s (ms ++ [m]) = trip s ms ++ [trD (endS s ms) m]
  | [], s, m => rfl
  | x :: ms, s, m => by rw [List.cons_append, trip, trip, trip_snoc ms, endS_cons]; rfl
theorem trip_at : ∀ (ms : List Mv) (s : S4) (i : Nat) (m : Mv), ms[i]? = some m → (trip s ms)[i]? = some (trD (endS s (ms.take i)) m)
  | [], _, _, _, h => by simp at h
  | x :: ms, s, 0, m, h => by
    have : x = m := by simpa using h
    subst this
    rfl
  | x :: ms, s, i + 1, m, h => by
    rw [trip, List.getElem?_cons_succ, List.take_succ_cons, endS_cons]
    exact trip_at ms x.n i m (by simpa using h)
theorem go_take {mv : S4 → List Mv} : ∀ (xs : List Sp2) (s : S4) (k : Nat), goR mv s (xs.take k) = (goR mv s xs).take k
  | [], s, k => by rw [List.take_nil]; exact List.take_nil.symm
  | x :: xs, s, 0 => by rw [List.take_zero, List.take_zero]; rfl
  | x :: xs, s, k + 1 => by
    rw [List.take_succ_cons]
    unfold goR
    cases h : (mv s).find? (isMv x) with
    | none => rfl
    | some m =>
      dsimp only
      rw [List.take_succ_cons, go_take xs]
theorem go_bad {mv : S4 → List Mv} : ∀ (pre : List Sp2) (s : S4) (y : Sp2) (rest : List Sp2), (goR mv s pre).length = pre.length → (mv (endS s (goR mv s pre))).find? (isMv y) = none → goR mv s (pre ++ y :: rest) = goR mv s pre
  | [], s, y, rest, _, h => by
    have h : (mv s).find? (isMv y) = none := h
    show goR mv s (y :: rest) = []
    unfold goR
    rw [h]
  | x :: pre, s, y, rest, hl, h => by
    rw [List.cons_append]
    unfold goR at hl h ⊢
    cases hf : (mv s).find? (isMv x) with
    | none => rfl
    | some m =>
      rw [hf] at hl h
      dsimp only at hl h ⊢
      rw [List.length_cons, List.length_cons] at hl
      rw [endS_cons] at h
      rw [go_bad pre m.n y rest (by omega) h]
/-- what is known of the moves of a tuple of steps -/
structure Run (n : Bn) (bs : List Bk) (xs : List Sp2) (ms : List Mv) : Prop where
  ok : ∀ i, StOk bs (endS st0 (ms.take i))
  mem : ∀ (i : Nat) (m : Mv), ms[i]? = some m → m ∈ movesS n bs (endS st0 (ms.take i))
  sp : ∀ (i : Nat) (m : Mv) (x : Sp2), ms[i]? = some m → xs[i]? = some x → mvSp m = x
section
variable {bs : List Bk} {n : Bn} {xs : List Sp2}
theorem run_of (hw : WOk bs) : Run n bs xs (goR (movesS n bs) st0 xs) := by
  obtain ⟨ms, hms⟩ : ∃ ms, goR (movesS n bs) st0 xs = ms := ⟨_, rfl⟩
  have hml : ms.length ≤ xs.length := by rw [← hms]; exact go_len _ _
  have key : ∀ (i : Nat) (m : Mv), ms[i]? = some m → ∃ x, xs[i]? = some x ∧ (movesS n bs (endS st0 (ms.take i))).find? (isMv x) = some m := fun i m h => by
    have hi := (List.getElem?_eq_some_iff.mp h).1
    obtain ⟨x, hx⟩ : ∃ x, xs[i]? = some x := ⟨_, List.getElem?_eq_getElem (by omega)⟩
    have := go_at (mv := movesS n bs) xs st0 i x (by rw [hms]; omega) hx
    rw [hms, h] at this
    exact ⟨x, hx, this⟩
  rw [hms]
  refine ⟨fun i => endS_ok (st0_ok bs) fun m hm => go_ok hw xs st0 (st0_ok bs) m (by rw [hms]; exact List.mem_of_mem_take hm), fun i m h => ?_, fun i m x h hx => ?_⟩
  · obtain ⟨x, _, hf⟩ := key i m h
    exact List.mem_of_find?_eq_some hf
  · obtain ⟨y, hy, hf⟩ := key i m h
    rw [hx] at hy
    cases hy
    have := List.find?_some hf
    unfold isMv at this
    exact of_decide_eq_true this
theorem mv_end {st : S4} (hs : StOk bs st) {m : Mv} (hm : m ∈ movesS n bs st) : ∃ p a s t b q, At bs st.d p a s t b ∧ st.d < m.e ∧ At bs (m.e - 1) q a s t b := by
  rcases movesS_cases hs with h | ⟨p, a, s, t, b, h⟩
  · rw [movesS_end h] at hm; cases hm
  · rw [movesS_at h] at hm
    obtain ⟨e, he, hm⟩ := List.mem_flatMap.mp hm
    have hme := to_e hm
    obtain ⟨h1, q, hq⟩ := ends_mem h he
    exact ⟨p, a, s, t, b, q, h, by omega, by rw [hme]; exact hq⟩
def frb (n : Bn) (bs : List Bk) (pr : Pr) (st : S4) (m : Mv) : Bool := match (flL bs)[st.d]? with
  | some (_, a, s, t) => forb n bs pr st a s t (bs.getD a default) m.e (mvSp m).c m.n.u
  | none => false
theorem frb_at {pr : Pr} {st : S4} {m : Mv} {p : Pc} {a s t : Nat} {b : Bk} (h : At bs st.d p a s t b) : frb n bs pr st m = forb n bs pr st a s t b m.e (mvSp m).c m.n.u := by
  unfold frb
  rw [h.ff]
  dsimp only
  rw [List.getD_eq_getElem?_getD, h.bb]
  rfl
def frI (n : Bn) (bs : List Bk) (pr : Pr) (ms : List Mv) (i : Nat) : Bool := match ms[i]? with
  | some m => frb n bs pr (endS st0 (ms.take i)) m
  | none => false
def brk (n : Bn) (bs : List Bk) (pr : Pr) (ms : List Mv) : Option Nat := (List.range ms.length).find? (frI n bs pr ms)
theorem range_hit {f : Nat → Bool} {i k : Nat} (h : (List.range i).find? f = none) (hi : f i = true) (hk : i < k) : (List.range k).find? f = some i := by
  rw [show k = i + (1 + (k - i - 1)) from by omega, List.range_add, List.find?_append, h]
  rw [show 1 + (k - i - 1) = (k - i - 1) + 1 from by omega, List.range_succ_eq_map, List.map_cons, List.find?_cons]
  simp [hi]
theorem range_miss {f : Nat → Bool} {i : Nat} (h : (List.range i).find? f = none) (hi : f i = false) : (List.range (i + 1)).find? f = none := by
  rw [List.range_succ, List.find?_append, h]
  simp [hi]
theorem stsP_at (ms : List Mv) {i : Nat} (hi : i ≤ ms.length) : (stK :: (stsOf ms).map stD)[i]? = some (sdOf i (endS st0 (ms.take i))) := by
  cases i with
  | zero => rfl
  | succ i =>
    obtain ⟨m, hm⟩ : ∃ m, ms[i]? = some m := ⟨_, List.getElem?_eq_getElem (by omega)⟩
    rw [List.getElem?_cons_succ, take_snoc hm, endS_snoc]
    unfold stsOf
    rw [List.map_map, List.getElem?_map, hm]
    rfl
theorem broken_sp (hw : WOk bs) (hn : BnOk n) (hx : xs.length ≤ 1000) (pr : Pr) : Rs (F_broken_at [galD bs, bookD n, layD xs, prD pr]) (fun d => verd bs n xs = none ∧ d = oD (brk n bs pr (goR (movesS n bs) st0 xs))) (fun a b c => ∃ k, verd bs n xs = some k ∧ BadK k a b c) := by
  have hl := go_len (mv := movesS n bs) xs st0
  have hm := states_sp hw hn hx
  have hr := run_of (n := n) (xs := xs) hw
  have hvl : verd bs n xs = none → xs.length ≤ (goR (movesS n bs) st0 xs).length := fun h => by
    unfold verd at h
    by_cases c : (goR (movesS n bs) st0 xs).length < xs.length
    · rw [if_pos c] at h; cases h
    · omega
  generalize goR (movesS n bs) st0 xs = ms at hl hm hr hvl
  refine rs_run ?_
  unfold Fb_broken_at
  show Ss (seqF _ _ [some (galD bs), some (bookD n), some (layD xs), some (prD pr), none, none]) _ _ _ _ _
  refine ss_seq (ss_cut (fun z => z = [some (galD bs), some (bookD n), some (layD xs), some (prD pr), some (stsP ms), none] ∧ verd bs n xs = none) ?_ ?_)
  · refine ss_set (rs_call (rs_cons (rs_var rfl (rs_cons (rs_var rfl (rs_cons (rs_var rfl (rs_nil ?_))))))))
    refine hm.impE (fun d q => ?_) fun _ _ _ z => z
    obtain ⟨hv, rfl⟩ := q
    exact ⟨rfl, hv⟩
  rintro _ ⟨rfl, hv⟩
  have hxl := hvl hv
  array_get_dec
  refine ss_rng xs.length (fun i z => ∃ x5, z = [some (galD bs), some (bookD n), some (layD xs), some (prD pr), some (stsP ms), x5] ∧ (List.range i).find? (frI n bs pr ms) = none) ?_ (by omega) ⟨none, rfl, rfl⟩ ?_ ?_
  · array_get_dec
    rw [List.length_map]
  · rintro i z hi ⟨x5, rfl, hnone⟩
    obtain ⟨m, hmi⟩ : ∃ m, ms[i]? = some m := ⟨_, List.getElem?_eq_getElem (by omega)⟩
    obtain ⟨x, hxi⟩ : ∃ x, xs[i]? = some x := ⟨_, List.getElem?_eq_getElem hi⟩
    have hsp := hr.sp i m x hmi hxi
    obtain ⟨p, a, s, t, b, q, h, h1, h2⟩ := mv_end (hr.ok i) (hr.mem i m hmi)
    have h3 : ms.take (i + 1) = ms.take i ++ [m] := take_snoc hmi
    have hfi : frI n bs pr ms i = forb n bs pr (endS st0 (ms.take i)) a s t b m.e (mvSp m).c m.n.u := by
      unfold frI
      rw [hmi]
      exact frb_at h
    unfold Lp_broken_at_1
    show Ss (ifF _ _ _ [some (galD bs), some (bookD n), some (layD xs), some (prD pr), some (stsP ms), some (.int (i : Int))]) _ _ _ _ _
    refine ss_if (rs_T (rs_call (rs_cons (rs_var rfl (rs_cons (rs_var rfl (rs_cons (rs_var rfl (rs_cons (rs_op (rs_var rfl (rs_var rfl (rs_ixL (atI_nat (stsP_at ms (by omega))) ?_)))))))))))))
    refine rs_cons (rs_op (rs_var rfl (rs_var rfl (rs_ixT (d := seD x) (atI_nat (by rw [List.getElem?_map, hxi]; rfl)) ?_))))
    refine rs_cons (rs_op (rs_var rfl (rs_op (rs_var rfl (rs_c (rs_add (rs_ixL (d := stD m.n) ?_ (rs_nil ?_))))))))
    · have := stsP_at ms (i := i + 1) (by omega)
      rw [h3, endS_snoc] at this
      exact atI_nat this
    rw [← hsp]
    refine Rs.of (isforb_eq hw h h1 h2 sdOf_ok pr) ?_
    rw [← hfi]
    refine rs_asB ⟨fun c => ?_, fun c => ?_⟩
    · array_get_dec
      refine ⟨hv, ?_⟩
      unfold brk
      rw [range_hit hnone c (by omega)]
      rfl
    · exact ⟨_, rfl, range_miss hnone c⟩
  · rintro z ⟨x5, rfl, hnone⟩
    array_get_dec
    refine ⟨hv, ?_⟩
    unfold brk
    rw [show ms.length = xs.length by omega, hnone]
    rfl
theorem first_eq (hw : WOk bs) (pr : Pr) (hpr : ∀ k, pr = .lo k → 0 ≤ k) {ms : List Mv} (hr : Run n bs xs ms) (hl : ms.length ≤ 1000) : F_l_first [bL bs, .lst ((flL bs).map flD), num8 n, prD pr, .lst (trip st0 ms)] = .ok (oD (brk n bs pr ms)) := Rs.eq (by
  refine rs_run ?_
  unfold Fb_l_first
  show Ss (seqF _ _ [some (bL bs), some (.lst ((flL bs).map flD)), some (num8 n), some (prD pr), some (.lst (trip st0 ms)), none]) _ _ _ _ _
  array_get_dec
  refine ss_rng ms.length (fun i z => ∃ x5, z = [some (bL bs), some (.lst ((flL bs).map flD)), some (num8 n), some (prD pr), some (.lst (trip st0 ms)), x5] ∧ (List.range i).find? (frI n bs pr ms) = none) ?_ (by omega) ⟨none, rfl, rfl⟩ ?_ ?_
  · array_get_dec
    rw [trip_len]
  · rintro i z hi ⟨x5, rfl, hnone⟩
    obtain ⟨m, hmi⟩ : ∃ m, ms[i]? = some m := ⟨_, List.getElem?_eq_getElem hi⟩
    obtain ⟨p, a, s, t, b, q, h, h1, h2⟩ := mv_end (hr.ok i) (hr.mem i m hmi)
    have hfi : frI n bs pr ms i = forb n bs pr (endS st0 (ms.take i)) a s t b m.e (mvSp m).c m.n.u := by
      unfold frI
      rw [hmi]
      exact frb_at h
    have hti : atI (trip st0 ms) (i : Int) = some (trD (endS st0 (ms.take i)) m) := atI_nat (trip_at ms st0 i m hmi)
    unfold Lp_l_first_1
    show Ss (ifF _ _ _ [some (bL bs), some (.lst ((flL bs).map flD)), some (num8 n), some (prD pr), some (.lst (trip st0 ms)), some (.int (i : Int))]) _ _ _ _ _
    refine ss_if (rs_T (rs_call (rs_cons (rs_var rfl (rs_cons (rs_var rfl (rs_cons (rs_var rfl (rs_cons (rs_var rfl ?_))))))))))
    refine rs_cons (rs_op (rs_op (rs_var rfl (rs_var rfl (rs_ixL hti (rs_c (rs_ixc (ds := [stD (endS st0 (ms.take i)), seD (mvSp m), stD m.n]) 0 rfl ?_)))))))
    refine rs_cons (rs_op (rs_op (rs_var rfl (rs_var rfl (rs_ixL hti (rs_c (rs_ixc (ds := [stD (endS st0 (ms.take i)), seD (mvSp m), stD m.n]) 1 rfl ?_)))))))
    refine rs_cons (rs_op (rs_op (rs_var rfl (rs_var rfl (rs_ixL hti (rs_c (rs_ixc (ds := [stD (endS st0 (ms.take i)), seD (mvSp m), stD m.n]) 2 rfl (rs_nil ?_))))))))
    refine Rs.of (lforb_eq hw h h1 h2 pr hpr) ?_
    rw [← hfi]
    refine rs_asB ⟨fun c => ?_, fun c => ?_⟩
    · array_get_dec
      unfold brk
      rw [range_hit hnone c hi]
      rfl
    · exact ⟨_, rfl, range_miss hnone c⟩
  · rintro z ⟨x5, rfl, hnone⟩
    array_get_dec
    unfold brk
    rw [hnone]
    rfl)
structure Drawn (bs : List Bk) (n : Bn) (xs : List Sp2) : Prop where
  l : (goR (movesS n bs) st0 xs).length = xs.length
  m : xs.length ≤ (pieces bs).length
  e : (endS st0 (goR (movesS n bs) st0 xs)).d = (pieces bs).length
theorem drawn_sp (hw : WOk bs) (hn : BnOk n) {pk : List Int} (hp : (pieces bs).length ≤ pk.length) : Rs (F_l_walk [bL bs, .lst ((flL bs).map flD), num8 n, iL pk]) (fun d => ∃ xs, d = .lst (trip st0 (goR (movesS n bs) st0 xs)) ∧ Drawn bs n xs) nE := by
  have hp40 := hw.p
  refine rs_runT ?_
  unfold Fb_l_walk
  show Ss (seqF _ _ [some (bL bs), some (.lst ((flL bs).map flD)), some (num8 n), some (iL pk), none, none, none, none, none, none]) _ _ _ _ _
  refine ss_seq (ss_cut (fun z => z = [some (bL bs), some (.lst ((flL bs).map flD)), some (num8 n), some (iL pk), some (stD (endS st0 (goR (movesS n bs) st0 []))), some (.lst (trip st0 (goR (movesS n bs) st0 []))), none, none, none, none]) ?_ ?_)
  · array_get_dec
    rfl
  rintro _ rfl
  array_get_dec
  refine ss_rng (pieces bs).length (fun i z => ∃ xs x6 x7 x8 x9, z = [some (bL bs), some (.lst ((flL bs).map flD)), some (num8 n), some (iL pk), some (stD (endS st0 (goR (movesS n bs) st0 xs))), some (.lst (trip st0 (goR (movesS n bs) st0 xs))), x6, x7, x8, x9] ∧ (goR (movesS n bs) st0 xs).length = xs.length ∧ xs.length ≤ i ∧ i ≤ (endS st0 (goR (movesS n bs) st0 xs)).d) ?_ (by omega) ⟨[], _, _, _, _, rfl, rfl, Nat.le_refl _, Nat.zero_le _⟩ ?_ ?_
  · array_get_dec
    rw [List.length_map, flA_len]
  · rintro i z hi ⟨xs, x6, x7, x8, x9, rfl, g1, g2, g3⟩
    have hok : StOk bs (endS st0 (goR (movesS n bs) st0 xs)) := endS_ok (st0_ok bs) (go_ok hw xs st0 (st0_ok bs))
    have hgs := go_snoc (mv := movesS n bs) xs st0
    have hend : ∀ m : Mv, endS st0 (goR (movesS n bs) st0 xs ++ [m]) = m.n := fun m => endS_snoc _ _ _
    obtain ⟨ms, hms⟩ : ∃ ms, goR (movesS n bs) st0 xs = ms := ⟨_, rfl⟩
    rw [hms] at hok g1 g3 hgs hend ⊢
    have hts : ∀ m, trip st0 (ms ++ [m]) = trip st0 ms ++ [trD (endS st0 ms) m] := fun m => trip_snoc ms st0 m
    obtain ⟨st, hst⟩ : ∃ st, endS st0 ms = st := ⟨_, rfl⟩
    rw [hst] at hok g3 hgs hts ⊢
    have hlm := lmoves (n := n) hw hn hok
    have hsl := movesS_len (n := n) hw hok
    have hsok : ∀ m ∈ movesS n bs st, StOk bs m.n ∧ st.d < m.n.d := fun m hm => movesS_ok hw hok hm
    have hinj : ∀ m m', m ∈ movesS n bs st → m' ∈ movesS n bs st → mvSp m = mvSp m' → m = m' := fun m m' h1 h2 h => mv_inj hok h1 h2 h
    have hne : st.d ≠ (pieces bs).length → 0 < (movesS n bs st).length := fun z => movesS_ne hok z
    have hsd := hok.d
    have htl : (trip st0 ms).length < 100000 := by rw [trip_len]; omega
    generalize movesS n bs st = L at hlm hsl hsok hinj hne hgs
    unfold Lp_l_walk_1
    show Ss (seqF _ _ [some (bL bs), some (.lst ((flL bs).map flD)), some (num8 n), some (iL pk), some (stD st), some (.lst (trip st0 ms)), some (.int (i : Int)), x7, x8, x9]) _ _ _ _ _
    refine ss_seq (ss_cut (fun z => z = [some (bL bs), some (.lst ((flL bs).map flD)), some (num8 n), some (iL pk), some (stD st), some (.lst (trip st0 ms)), some (.int (i : Int)), some (mE L), x8, x9]) ?_ ?_)
    · array_get_dec
      exact Rs.of hlm rfl
    rintro _ rfl
    array_get_dec
    rw [List.length_map]
    refine ⟨fun c => ?_, fun c => ?_⟩
    · have c := of_decide_eq_true c
      obtain ⟨v, hv⟩ : ∃ v, pk[i]? = some v := ⟨_, List.getElem?_eq_getElem (by omega)⟩
      have hm1 := Int.emod_nonneg v (show (L.length : Int) ≠ 0 by omega)
      have hm2 := Int.emod_lt_of_pos v (show (0 : Int) < (L.length : Int) by omega)
      obtain ⟨j, hj⟩ : ∃ j : Nat, v % (L.length : Int) = (j : Int) := ⟨(v % (L.length : Int)).toNat, by omega⟩
      obtain ⟨m, hm⟩ : ∃ m, L[j]? = some m := ⟨_, List.getElem?_eq_getElem (by omega)⟩
      have hmL := List.mem_of_getElem? hm
      obtain ⟨o1, o2⟩ := hsok m hmL
      have hfind : L.find? (isMv (mvSp m)) = some m := by
        cases hf : L.find? (isMv (mvSp m)) with
        | none =>
          rw [List.find?_eq_none] at hf
          exact absurd (hf m hmL) (by simp [isMv])
        | some k =>
          have h1 := List.mem_of_find?_eq_some hf
          have h2 := List.find?_some hf
          rw [hinj k m h1 hmL (by simpa [isMv] using h2)]
      have hgo := hgs (mvSp m) m g1 hfind
      refine ss_seq (ss_cut (fun z => z = [some (bL bs), some (.lst ((flL bs).map flD)), some (num8 n), some (iL pk), some (stD st), some (.lst (trip st0 ms)), some (.int (i : Int)), some (mE L), some (seD (mvSp m)), some (stD m.n)]) ?_ ?_)
      · refine ss_asg (rs_op (rs_var rfl (rs_op (rs_call (rs_cons (rs_op (rs_var rfl (rs_var rfl (rs_ixL (d := .int v) (atI_nat (by rw [List.getElem?_map, hv]; rfl)) (rs_nil (rs_int ?_)))))))))))
        refine rs_call (rs_cons (rs_var rfl (rs_nil (rs_lenL ?_))))
        rw [List.length_map]
        refine rs_mod (show (0 : Int) < (L.length : Int) by omega) ?_
        rw [hj]
        refine rs_ixL (d := mvE m) (atI_nat (by rw [List.getElem?_map, hm]; rfl)) ?_
        unfold mvE
        rw [step_se]
        exact ⟨_, rfl, rfl⟩
      rintro _ rfl
      refine ss_seq (ss_cut (fun z => z = [some (bL bs), some (.lst ((flL bs).map flD)), some (num8 n), some (iL pk), some (stD st), some (.lst (trip st0 (ms ++ [m]))), some (.int (i : Int)), some (mE L), some (seD (mvSp m)), some (stD m.n)]) ?_ ?_)
      · rw [hts]
        refine ss_app (ds := trip st0 ms) rfl ?_
        refine rs_tup (rs_cons (rs_var rfl (rs_cons (rs_var rfl (rs_cons (rs_var rfl (rs_nil ?_)))))))
        exact ⟨Nat.le_of_ble_eq_true rfl, Nat.lt_of_lt_of_le htl sz5, rfl⟩
      rintro _ rfl
      refine ss_set (rs_var rfl ?_)
      refine ⟨xs ++ [mvSp m], some (.int (i : Int)), some (mE L), some (seD (mvSp m)), some (stD m.n), ?_, ?_, ?_, ?_⟩
      · rw [hgo, hend m]
        rfl
      · rw [hgo, List.length_append, List.length_append, g1]
        rfl
      · rw [List.length_append]; simp only [List.length_cons, List.length_nil]; omega
      · rw [hgo, hend m]; omega
    · have c := of_decide_eq_false c
      have hz : st.d = (pieces bs).length := Decidable.byContradiction fun z => c (by have := hne z; omega)
      refine ⟨xs, some (.int (i : Int)), some (mE L), x8, x9, ?_, ?_, by omega, ?_⟩
      · rw [hms, hst]
      · rw [hms]; exact g1
      · rw [hms, hst]; omega
  · rintro z ⟨xs, x6, x7, x8, x9, rfl, g1, g2, g3⟩
    have hok : StOk bs (endS st0 (goR (movesS n bs) st0 xs)) := endS_ok (st0_ok bs) (go_ok hw xs st0 (st0_ok bs))
    array_get_dec
    exact ⟨xs, rfl, g1, g2, by have := hok.d; omega⟩
end
end
section
section
variable {bs : List Bk} {n : Bn} {xs : List Sp2} {st : S4}
theorem verd_bad {pre rest : List Sp2} {y : Sp2} (hl : (goR (movesS n bs) st0 pre).length = pre.length) (h : (movesS n bs (endS st0 (goR (movesS n bs) st0 pre))).find? (isMv y) = none) : verd bs n (pre ++ y :: rest) = some pre.length := by
  unfold verd
  rw [go_bad pre st0 y rest hl h, hl, if_pos (by simp)]
theorem find_no {y : Sp2} {L : List Mv} (h : ∀ m ∈ L, mvSp m ≠ y) : L.find? (isMv y) = none := by
  rw [List.find?_eq_none]
  intro m hm
  unfold isMv
  simpa using h m hm
theorem mv_any (hs : StOk bs st) {m : Mv} (hm : m ∈ movesS n bs st) : ∃ a s t b e, st.d < m.e ∧ m ∈ movesTo n bs st a s t b e := by
  rcases movesS_cases hs with h | ⟨p, a, s, t, b, h⟩
  · rw [movesS_end h] at hm; cases hm
  · rw [movesS_at h] at hm
    obtain ⟨e, he, hm⟩ := List.mem_flatMap.mp hm
    have hme := to_e hm
    obtain ⟨h1, q, hq⟩ := ends_mem h he
    exact ⟨a, s, t, b, e, by omega, hm⟩
theorem no_zero (hs : StOk bs st) (c : Option Int) : (movesS n bs st).find? (isMv ⟨0, c⟩) = none := find_no fun m hm z => by
  obtain ⟨a, s, t, b, e, h1, _⟩ := mv_any hs hm
  unfold mvSp at z
  injection z with z1 z2
  omega
theorem no_nine (hw : WOk bs) (hs : StOk bs st) (e : Int) : (movesS n bs st).find? (isMv ⟨e, some 9⟩) = none := find_no fun m hm z => by
  obtain ⟨a, s, t, b, e, h1, hm⟩ := mv_any hs hm
  have hc := called_le (bs := bs) st.d
  have hf := hw.f
  unfold mvSp at z
  injection z with z1 z2
  have key : ∀ k : Nat, m.m = some k → (k : Int) = 9 := fun k hk => by rw [hk] at z2; exact Option.some.inj z2
  unfold movesTo at hm
  split at hm
  · simp only [List.mem_cons, List.not_mem_nil, or_false] at hm
    have := key 0 (by rw [hm])
    omega
  · rcases List.mem_append.mp hm with hm | hm
    · split at hm
      · simp only [List.mem_cons, List.not_mem_nil, or_false] at hm
        rw [hm] at z2
        cases z2
      · cases hm
    · obtain ⟨k, hk, rfl⟩ := List.mem_map.mp hm
      have := key k rfl
      have := List.mem_range.mp (List.mem_filter.mp hk).1
      omega
theorem no_open (hs : StOk bs st) (hd : st.d = 0) (e : Int) : (movesS n bs st).find? (isMv ⟨e, none⟩) = none := find_no fun m hm z => by
  obtain ⟨a, s, t, b, e, h1, hm⟩ := mv_any hs hm
  unfold mvSp at z
  injection z with z1 z2
  unfold movesTo at hm
  rw [if_pos hd] at hm
  simp only [List.mem_cons, List.not_mem_nil, or_false] at hm
  rw [hm] at z2
  cases z2
theorem drawn_take (h : Drawn bs n xs) {k : Nat} (hk : k ≤ xs.length) : (goR (movesS n bs) st0 (xs.take k)).length = (xs.take k).length := by
  have := h.l
  rw [go_take, List.length_take, List.length_take]
  omega
theorem drawn_ok (hw : WOk bs) (xs : List Sp2) : StOk bs (endS st0 (goR (movesS n bs) st0 xs)) := endS_ok (st0_ok bs) (go_ok hw xs st0 (st0_ok bs))
theorem drawn_none (h : Drawn bs n xs) : verd bs n xs = none := by
  unfold verd
  rw [if_neg (by have := h.l; omega), if_neg (by have := h.e; omega)]
theorem drawn_pos (h : Drawn bs n xs) (hp : 0 < (pieces bs).length) : 0 < xs.length := by
  cases xs with
  | nil => have := h.e; have : (0 : Nat) = (pieces bs).length := this; omega
  | cons => simp
theorem verd_cut (hw : WOk bs) (h : Drawn bs n xs) (hp : 0 < xs.length) : verd bs n (xs.take (xs.length - 1)) = some (xs.length - 1) := by
  have hl := drawn_take h (k := xs.length - 1) (by omega)
  have ht : (xs.take (xs.length - 1)).length = xs.length - 1 := by rw [List.length_take]; omega
  have hr := run_of (n := n) (xs := xs) hw
  have h1 := h.l
  have h2 := h.e
  have hg : goR (movesS n bs) st0 (xs.take (xs.length - 1)) = (goR (movesS n bs) st0 xs).take (xs.length - 1) := go_take _ _ _
  unfold verd
  rw [if_neg (by omega), hg]
  generalize goR (movesS n bs) st0 xs = ms at hr h1 h2
  obtain ⟨m, hm⟩ : ∃ m, ms[xs.length - 1]? = some m := ⟨_, List.getElem?_eq_getElem (by omega)⟩
  have h3 := movesS_ok hw (hr.ok (xs.length - 1)) (hr.mem _ m hm)
  have h4 := h3.1.d
  rw [if_pos (by omega), ht]
/-- the four ways to spoil a laying -/
def spoil (xs : List Sp2) (T : Int) (w : Int) (k : Nat) : List Sp2 × Nat :=
  if w = 0 then (xs.take k ++ ⟨0, none⟩ :: xs.drop (k + 1), k)
  else if w = 1 then (xs.take k ++ ⟨(xs.getD k default).e, some 9⟩ :: xs.drop (k + 1), k)
  else if w = 2 then (xs ++ [⟨T, none⟩], xs.length)
  else (⟨(xs.getD 0 default).e, none⟩ :: xs.drop 1, 0)
theorem spoil_len (T w : Int) {k : Nat} (hk : k < xs.length) : (spoil xs T w k).1.length ≤ xs.length + 1 := by
  unfold spoil
  split
  · simp; omega
  split
  · simp; omega
  split
  · simp
  · simp <;> omega
theorem spoil_verd (hw : WOk bs) (h : Drawn bs n xs) (T w : Int) {k : Nat} (hk : k < xs.length) : verd bs n (spoil xs T w k).1 = some (spoil xs T w k).2 := by
  have ht : (xs.take k).length = k := by rw [List.length_take]; omega
  unfold spoil
  split
  · have := verd_bad (rest := xs.drop (k + 1)) (drawn_take h (k := k) (by omega)) (no_zero (n := n) (drawn_ok hw (xs.take k)) none)
    rw [ht] at this
    exact this
  split
  · have := verd_bad (rest := xs.drop (k + 1)) (drawn_take h (k := k) (by omega)) (no_nine (n := n) hw (drawn_ok hw (xs.take k)) (xs.getD k default).e)
    rw [ht] at this
    exact this
  split
  · refine verd_bad h.l ?_
    rw [movesS_end h.e]
    rfl
  · exact verd_bad (pre := []) rfl (no_open (n := n) (st0_ok bs) rfl _)
theorem spoilt_eq (T w : Int) {k : Nat} (hk : k < xs.length) (hx : xs.length ≤ 1000) : F_l_spoilt [layD xs, .int T, .int w, .int (k : Int)] = .ok (.tup [layD (spoil xs T w k).1, .int ((spoil xs T w k).2 : Int)]) := Rs.eq (by
  have k1 : cutL (xs.map seD) none (some (k : Int)) = (xs.take k).map seD := by rw [cut_take, List.map_take]
  have k2 : cutL (xs.map seD) (some ((k : Int) + 1)) none = (xs.drop (k + 1)).map seD := by rw [show (k : Int) + 1 = ((k + 1 : Nat) : Int) from by omega, cut_drop, List.map_drop]
  have k3 : cutL (xs.map seD) (some 1) none = (xs.drop 1).map seD := by rw [show (1 : Int) = ((1 : Nat) : Int) from rfl, cut_drop, List.map_drop]
  have ap : ∀ (as bs' : List Sp2) {Q : D → Prop} {E : Str → List Str → List D → Prop}, as.length + bs'.length ≤ 2000 → Q (layD (as ++ bs')) → Rs (addD (layD as) (layD bs')) Q E := fun as bs' Q E hl q => rs_addT (by rw [List.length_map, List.length_map]; exact Nat.le_trans (by omega) sz5) (by rw [← List.map_append]; exact q)
  have tl1 : (xs.take k).length = min k xs.length := List.length_take
  have dl : (xs.drop (k + 1)).length = xs.length - (k + 1) := List.length_drop
  have dl1 : (xs.drop 1).length = xs.length - 1 := List.length_drop
  obtain ⟨x, hxc⟩ : ∃ x, xs[k]? = some x := ⟨_, List.getElem?_eq_getElem hk⟩
  obtain ⟨x0, hx0⟩ : ∃ x, xs[0]? = some x := ⟨_, List.getElem?_eq_getElem (by omega)⟩
  have ix : atI (xs.map seD) (k : Int) = some (seD x) := atI_nat (by rw [List.getElem?_map, hxc]; rfl)
  have ix0 : atI (xs.map seD) 0 = some (seD x0) := atI_nat (j := 0) (by rw [List.getElem?_map, hx0]; rfl)
  have gx : xs.getD k default = x := by rw [List.getD_eq_getElem?_getD, hxc]; rfl
  have gx0 : xs.getD 0 default = x0 := by rw [List.getD_eq_getElem?_getD, hx0]; rfl
  refine rs_run ?_
  unfold Fb_l_spoilt
  show Ss (seqF _ _ [some (layD xs), some (.int T), some (.int w), some (.int (k : Int))]) _ _ _ _ _
  unfold spoil
  refine ss_seq (ss_if (rs_T (rs_op (rs_var rfl (rs_c (rs_eqI (rs_asB ⟨fun c => ?_, fun c => ?_⟩)))))))
  · rw [if_pos (of_decide_eq_true c)]
    refine ss_ret (rs_tup (rs_cons (rs_op (rs_op (rs_sl (rs_var rfl (rs_noP (rs_part (rs_var rfl (rs_asI (rs_slT ?_)))))))))))
    rw [k1]
    refine rs_tup (rs_cons (rs_tup (rs_cons (rs_c (rs_cons (rs_c (rs_nil ⟨Nat.le_of_ble_eq_true rfl, rs_nil ⟨Nat.le_of_ble_eq_true rfl, ?_⟩⟩)))))))
    refine ap _ [⟨0, none⟩] (by simp; omega) ?_
    refine rs_sl (rs_var rfl (rs_part (rs_op (rs_var rfl (rs_c (rs_add (rs_asI (rs_noP (rs_slT ?_)))))))))
    rw [k2]
    refine ap _ _ (by rw [List.length_append]; simp; omega) ?_
    refine rs_cons (rs_var rfl (rs_nil ⟨Nat.le_of_ble_eq_true rfl, ?_⟩))
    rw [List.append_assoc]
    rfl
  rw [if_neg (of_decide_eq_false c)]
  refine ss_nx ?_
  refine ss_seq (ss_if (rs_T (rs_op (rs_var rfl (rs_c (rs_eqI (rs_asB ⟨fun c => ?_, fun c => ?_⟩)))))))
  · rw [if_pos (of_decide_eq_true c), gx]
    refine ss_ret (rs_tup (rs_cons (rs_op (rs_op (rs_sl (rs_var rfl (rs_noP (rs_part (rs_var rfl (rs_asI (rs_slT ?_)))))))))))
    rw [k1]
    refine rs_tup (rs_cons (rs_tup (rs_cons (rs_op (rs_op (rs_var rfl (rs_var rfl (rs_ixT ix (rs_c (rs_ixc (ds := [.int x.e, oI x.c]) 0 rfl ?_))))))))))
    refine rs_cons (rs_c (rs_nil ⟨Nat.le_of_ble_eq_true rfl, rs_nil ⟨Nat.le_of_ble_eq_true rfl, ?_⟩⟩))
    refine ap _ [⟨x.e, some 9⟩] (by simp; omega) ?_
    refine rs_sl (rs_var rfl (rs_part (rs_op (rs_var rfl (rs_c (rs_add (rs_asI (rs_noP (rs_slT ?_)))))))))
    rw [k2]
    refine ap _ _ (by rw [List.length_append]; simp; omega) ?_
    refine rs_cons (rs_var rfl (rs_nil ⟨Nat.le_of_ble_eq_true rfl, ?_⟩))
    rw [List.append_assoc]
    rfl
  rw [if_neg (of_decide_eq_false c)]
  refine ss_nx ?_
  refine ss_seq (ss_if (rs_T (rs_op (rs_var rfl (rs_c (rs_eqI (rs_asB ⟨fun c => ?_, fun c => ?_⟩)))))))
  · rw [if_pos (of_decide_eq_true c)]
    refine ss_ret (rs_tup (rs_cons (rs_op (rs_var rfl (rs_tup (rs_cons (rs_tup (rs_cons (rs_var rfl (rs_cons (rs_c (rs_nil ⟨Nat.le_of_ble_eq_true rfl, rs_nil ⟨Nat.le_of_ble_eq_true rfl, ?_⟩⟩))))))))))))
    refine ap xs [⟨T, none⟩] (by simp; omega) ?_
    refine rs_cons (rs_call (rs_cons (rs_var rfl (rs_nil (rs_lenT ?_)))))
    rw [List.length_map]
    exact rs_nil ⟨Nat.le_of_ble_eq_true rfl, rfl⟩
  rw [if_neg (of_decide_eq_false c), gx0]
  refine ss_nx ?_
  refine ss_ret (rs_tup (rs_cons (rs_op (rs_tup (rs_cons (rs_tup (rs_cons (rs_op (rs_op (rs_var rfl (rs_c (rs_ixT ix0 (rs_c (rs_ixc (ds := [.int x0.e, oI x0.c]) 0 rfl ?_))))))))))))))
  refine rs_cons (rs_c (rs_nil ⟨Nat.le_of_ble_eq_true rfl, rs_nil ⟨Nat.le_of_ble_eq_true rfl, ?_⟩⟩))
  refine rs_sl (rs_var rfl (rs_part (rs_c (rs_asI (rs_noP (rs_slT ?_))))))
  rw [k3]
  refine ap [⟨x0.e, none⟩] _ (by simp; omega) ?_
  exact rs_cons (rs_c (rs_nil ⟨Nat.le_of_ble_eq_true rfl, rfl⟩)))
theorem book8 (hb : BnOk n) (h1 : n.cl = 1) (h2 : n.gt = 1) (h3 : n.fl = false) : F_l_book [num8 n] = .ok (bookD n) := Rs.eq (by
  have hi := binit n hb
  unfold Bn.ds at hi
  rw [h1, h2, h3] at hi
  refine rs_run ?_
  unfold Fb_l_book
  refine ss_ret (rs_mkKD ?_)
  array_get_dec
  exact Rs.of hi rfl)
theorem num_yes (i : Int) : FH_l_number [.int i] = .ok (.bl true) := Rs.eq (by
  refine rs_run ?_
  unfold FbH_l_number
  sizeOf_list_dec
  rfl)
theorem refused_eq (hw : WOk bs) (hn : BnOk n) (hx : xs.length ≤ 1000) (pr : Pr) {k : Nat} (hv : verd bs n xs = some k) : F_l_refused [galD bs, bookD n, layD xs, prD pr, .int (k : Int)] = .ok (.bl true) := Rs.eq (by
  have hs := broken_sp hw hn hx pr
  refine rs_run ?_
  unfold Fb_l_refused
  show Ss (seqF _ _ [some (galD bs), some (bookD n), some (layD xs), some (prD pr), some (.int (k : Int)), none]) _ _ _ _ _
  refine ss_seq (ss_try (ss_drop (rs_call (rs_cons (rs_var rfl (rs_cons (rs_var rfl (rs_cons (rs_var rfl (rs_cons (rs_var rfl (rs_nil ?_))))))))))))
  refine hs.impE (fun d q => ?_) fun a b c q => ?_
  · rw [hv] at q
    cases q.1
  obtain ⟨k', hk, rfl, rfl, rfl⟩ := q
  rw [hv] at hk
  cases hk
  refine ⟨by decide +kernel, ?_⟩
  refine ss_ret (rs_andV (rs_isX (b := true) rfl (by decide +kernel) (rs_asB ?_)))
  refine rs_andV ?_
  refine rs_call (rs_cons (rs_xf (d := .int (k : Int)) rfl rfl (rs_nil ?_)))
  refine Rs.of (num_yes _) (rs_asB ?_)
  refine rs_op (rs_xf (d := .int (k : Int)) rfl rfl (rs_var rfl (rs_eqI ?_)))
  rw [decide_eq_true rfl]
  exact rs_asB rfl)
end
end
section
theorem same_oD (n : Nat) (o : Option Nat) : F_l_same (n + 1) [oD o, oD o] = .ok (.bl true) := by
  cases o with
  | none => exact same_non n
  | some k => exact same_int n k
/-- the steps of triples -/
def tr1 : D → D
  | .tup [_, e, _] => e
  | d => d
theorem trip_map : ∀ (ms : List Mv) (s : S4), (trip s ms).map tr1 = ms.map fun m => seD (mvSp m)
  | [], _ => rfl
  | m :: ms, s => by rw [trip, List.map_cons, List.map_cons, trip_map ms]; rfl
theorem trip_mem : ∀ (ms : List Mv) (s : S4) (d : D), d ∈ trip s ms → ∃ s m, d = trD s m
  | [], _, _, h => by cases h
  | m :: ms, s, d, h => by
    rw [trip] at h
    rcases List.mem_cons.mp h with rfl | h
    · exact ⟨_, _, rfl⟩
    · exact trip_mem ms m.n d h
section
variable {bs : List Bk} {n : Bn} {xs : List Sp2}
theorem run_map (hr : Run n bs xs (goR (movesS n bs) st0 xs)) (hl : (goR (movesS n bs) st0 xs).length = xs.length) : (goR (movesS n bs) st0 xs).map mvSp = xs := by
  generalize goR (movesS n bs) st0 xs = ms at hr hl
  refine List.ext_getElem? fun i => ?_
  by_cases h : i < ms.length
  · obtain ⟨m, hm⟩ : ∃ m, ms[i]? = some m := ⟨_, List.getElem?_eq_getElem h⟩
    obtain ⟨x, hx⟩ : ∃ x, xs[i]? = some x := ⟨_, List.getElem?_eq_getElem (by omega)⟩
    rw [List.getElem?_map, hm, hx, Option.map_some, hr.sp i m x hm hx]
  · rw [List.getElem?_eq_none (by rw [List.length_map]; omega), List.getElem?_eq_none (by omega)]
theorem broken_eq (hw : WOk bs) (hn : BnOk n) (hx : xs.length ≤ 1000) (h : Drawn bs n xs) (pr : Pr) : F_broken_at [galD bs, bookD n, layD xs, prD pr] = .ok (oD (brk n bs pr (goR (movesS n bs) st0 xs))) := Rs.eq ((broken_sp hw hn hx pr).impE (fun d q => q.2) fun a b c q => by
  obtain ⟨k, hk, _⟩ := q
  rw [drawn_none h] at hk
  cases hk)
theorem wok0 : WOk [] := ⟨fun b hb => (by cases hb), (by simp [pieces]), (by simp [figs, pieces])⟩
theorem broken_0 (hn : BnOk n) (pr : Pr) : F_broken_at [galD [], bookD n, .tup [], prD pr] = .ok .non := Rs.eq ((broken_sp (xs := []) wok0 hn (Nat.zero_le _) pr).impE (fun d q => q.2) fun a b c q => by
  obtain ⟨k, hk, _⟩ := q
  cases hk)
end
theorem scale4 {v : Int} (h0 : 0 ≤ v) (h4 : v < 4) : ∃ sc, atI [D.int 150, .int 1, .int 1, .int 1] v = some (.int sc) ∧ 1 ≤ sc ∧ sc ≤ 150 := by
  rcases (show v = 0 ∨ v = 1 ∨ v = 2 ∨ v = 3 by omega) with rfl | rfl | rfl | rfl
  · exact ⟨150, rfl, by decide, by decide⟩
  · exact ⟨1, rfl, by decide, by decide⟩
  · exact ⟨1, rfl, by decide, by decide⟩
  · exact ⟨1, rfl, by decide, by decide⟩
theorem over3 {v : Int} (h0 : 0 ≤ v) (h4 : v < 3) : ∃ sc, atI [D.int 1, .int 5, .int 100] v = some (.int sc) ∧ 1 ≤ sc ∧ sc ≤ 100 := by
  rcases (show v = 0 ∨ v = 1 ∨ v = 2 by omega) with rfl | rfl | rfl
  · exact ⟨1, rfl, by decide, by decide⟩
  · exact ⟨5, rfl, by decide, by decide⟩
  · exact ⟨100, rfl, by decide, by decide⟩
theorem law_true (ns : List Int) (hn : ns.length ≤ 63) : F_law [.fz (ns.map D.int)] = .ok (.bl true) := Rs.eq (by
  refine rs_run ?_
  unfold Fb_law
  show Ss (seqF _ _ [some (scD ns), none, none, none, none, none, none, none, none, none, none, none, none, none, none, none, none]) _ _ _ _ _
  refine ss_seq (ss_cut (fun z => ∃ v0 v1 v2 v3 v4 v5 v6 v7 v8, z = [some (scD ns), some (iL [v0, v1, v2, v3, v4, v5, v6, v7, v8]), none, none, none, none, none, none, none, none, none, none, none, none, none, none, none] ∧ Fit [v0, v1, v2, v3, v4, v5, v6, v7, v8] [2, 4, 4, 4, 4, 4, 6, 4, 60]) ?_ ?_)
  · array_get_dec
    refine Rs.of (cell_eq ns 0) ?_
    array_get_dec
    refine row_of _ [2, 4, 4, 4, 4, 4, 6, 4, 60] ?_ (by decide) fun vs hf => ?_
    · intro l hl
      simp only [List.mem_cons, List.not_mem_nil, or_false] at hl
      omega
    have hg := hf
    obtain ⟨v0, _, rfl, a0, b0, hg⟩ := hg.cons
    obtain ⟨v1, _, rfl, a1, b1, hg⟩ := hg.cons
    obtain ⟨v2, _, rfl, a2, b2, hg⟩ := hg.cons
    obtain ⟨v3, _, rfl, a3, b3, hg⟩ := hg.cons
    obtain ⟨v4, _, rfl, a4, b4, hg⟩ := hg.cons
    obtain ⟨v5, _, rfl, a5, b5, hg⟩ := hg.cons
    obtain ⟨v6, _, rfl, a6, b6, hg⟩ := hg.cons
    obtain ⟨v7, _, rfl, a7, b7, hg⟩ := hg.cons
    obtain ⟨v8, _, rfl, a8, b8, hg⟩ := hg.cons
    cases hg.nil
    exact ⟨_, _, _, _, _, _, _, _, _, rfl, hf⟩
  rintro _ ⟨v0, v1, v2, v3, v4, v5, v6, v7, v8, rfl, hf⟩
  obtain ⟨a0, b0, hf⟩ := hf
  obtain ⟨a1, b1, hf⟩ := hf
  obtain ⟨a2, b2, hf⟩ := hf
  obtain ⟨a3, b3, hf⟩ := hf
  obtain ⟨a4, b4, hf⟩ := hf
  obtain ⟨a5, b5, hf⟩ := hf
  obtain ⟨a6, b6, hf⟩ := hf
  obtain ⟨a7, b7, hf⟩ := hf
  obtain ⟨a8, b8, _⟩ := hf
  obtain ⟨ws, hws⟩ : ∃ ws, ws = [v0, v1, v2, v3, v4, v5, v6, v7, v8] := ⟨_, rfl⟩
  have j0 : atI (ws.map D.int) 0 = some (.int v0) := by rw [hws]; rfl
  have j1 : atI (ws.map D.int) 1 = some (.int v1) := by rw [hws]; rfl
  have j2 : atI (ws.map D.int) 2 = some (.int v2) := by rw [hws]; rfl
  have j3 : atI (ws.map D.int) 3 = some (.int v3) := by rw [hws]; rfl
  have j4 : atI (ws.map D.int) 4 = some (.int v4) := by rw [hws]; rfl
  have j5 : atI (ws.map D.int) 5 = some (.int v5) := by rw [hws]; rfl
  have j6 : atI (ws.map D.int) 6 = some (.int v6) := by rw [hws]; rfl
  have j7 : atI (ws.map D.int) 7 = some (.int v7) := by rw [hws]; rfl
  have j8 : atI (ws.map D.int) 8 = some (.int v8) := by rw [hws]; rfl
  rw [← hws]
  clear hws
  obtain ⟨sc, hsc, hs1, hs2⟩ := scale4 a7 b7
  refine ss_seq (ss_cut (fun z => z = [some (scD ns), some (iL ws), some (.int sc), none, none, none, none, none, none, none, none, none, none, none, none, none, none]) ?_ ?_)
  · array_get_dec
    rfl
  rintro _ rfl
  refine ss_seq (ss_cut (fun z => ∃ b, z = [some (scD ns), some (iL ws), some (.int sc), some (bL [b]), none, none, none, none, none, none, none, none, none, none, none, none, none] ∧ BkOk b ∧ 1 ≤ b.ps.length ∧ b.ps.length ≤ 4) ?_ ?_)
  · obtain ⟨m, hm⟩ : ∃ m : Nat, v1 + 1 = (m : Int) := ⟨(v1 + 1).toNat, by omega⟩
    array_get_dec
    refine Rs.of (cell_eq ns 1) ?_
    array_get_dec
    rw [hm]
    refine (block_sp _ sc m (by omega) ⟨hs1, hs2⟩).imp ?_
    rintro d ⟨b, rfl, g1, g2, _⟩
    array_get_dec
    exact ⟨b, rfl, g1, by omega, by omega⟩
  rintro _ ⟨b, rfl, g1, g2, g3⟩
  refine ss_seq (ss_cut (fun z => ∃ bs, z = [some (scD ns), some (iL ws), some (.int sc), some (bL bs), none, none, none, none, none, none, none, none, none, none, none, none, none] ∧ (∀ b ∈ bs, BkOk b ∧ b.ps.length ≤ 4) ∧ bs.length ≤ 2 ∧ 1 ≤ (pieces bs).length) ?_ ?_)
  · array_get_dec
    refine ⟨fun _ => ?_, fun _ => ?_⟩
    · obtain ⟨m, hm⟩ : ∃ m : Nat, v2 + 1 = (m : Int) := ⟨(v2 + 1).toNat, by omega⟩
      refine ss_app (ds := [bkD b]) rfl ?_
      array_get_dec
      refine Rs.of (cell_eq ns 2) ?_
      array_get_dec
      rw [hm]
      refine (block_sp _ sc m (by omega) ⟨hs1, hs2⟩).imp ?_
      rintro d ⟨b', rfl, g1', g2', _⟩
      refine ⟨Nat.le_of_ble_eq_true rfl, [b, b'], rfl, fun x hx => ?_, by simp, ?_⟩
      · simp only [List.mem_cons, List.not_mem_nil, or_false] at hx
        rcases hx with rfl | rfl
        · exact ⟨g1, g3⟩
        · exact ⟨g1', by omega⟩
      · rw [pieces_cons, List.length_append]; omega
    · refine ⟨[b], rfl, fun x hx => ?_, by simp, ?_⟩
      · simp only [List.mem_cons, List.not_mem_nil, or_false] at hx
        subst hx
        exact ⟨g1, g3⟩
      · rw [pieces_cons, List.length_append]; omega
  clear g1 g2 g3 b
  rintro _ ⟨bs0, rfl, g1, g2, g3⟩
  refine ss_seq (ss_cut (fun z => ∃ bs, z = [some (scD ns), some (iL ws), some (.int sc), some (bL bs), none, none, none, none, none, none, none, none, none, none, none, none, none] ∧ WOk bs ∧ (pieces bs).length ≤ 8 ∧ 1 ≤ (pieces bs).length) ?_ ?_)
  · array_get_dec
    refine (few_sp bs0 g1 g2).imp ?_
    rintro d ⟨cs, rfl, h1, h2, h3⟩
    exact ⟨cs, rfl, h1, h3, by omega⟩
  clear g1 g2 g3 bs0
  rintro _ ⟨bs, rfl, hw, hp8, hp1⟩
  refine ss_seq (ss_cut (fun z => z = [some (scD ns), some (iL ws), some (.int sc), some (bL bs), some (.lst ((flL bs).map flD)), none, none, none, none, none, none, none, none, none, none, none, none]) ?_ ?_)
  · array_get_dec
    exact Rs.of (flat_eq bs hw) rfl
  rintro _ rfl
  refine ss_seq (ss_cut (fun z => ∃ u0 u1 u2 u3 u4 u5 u6 u7, z = [some (scD ns), some (iL ws), some (.int sc), some (bL bs), some (.lst ((flL bs).map flD)), some (iL [u0, u1, u2, u3, u4, u5, u6, u7]), none, none, none, none, none, none, none, none, none, none, none] ∧ Fit [u0, u1, u2, u3, u4, u5, u6, u7] [5, 5, 4, 3, 6, 6, 6, 4]) ?_ ?_)
  · array_get_dec
    refine Rs.of (cell_eq ns 3) ?_
    array_get_dec
    refine row_of _ [5, 5, 4, 3, 6, 6, 6, 4] ?_ (by decide) fun vs hf => ?_
    · intro l hl
      simp only [List.mem_cons, List.not_mem_nil, or_false] at hl
      omega
    have hg := hf
    obtain ⟨v0, _, rfl, a0, b0, hg⟩ := hg.cons
    obtain ⟨v1, _, rfl, a1, b1, hg⟩ := hg.cons
    obtain ⟨v2, _, rfl, a2, b2, hg⟩ := hg.cons
    obtain ⟨v3, _, rfl, a3, b3, hg⟩ := hg.cons
    obtain ⟨v4, _, rfl, a4, b4, hg⟩ := hg.cons
    obtain ⟨v5, _, rfl, a5, b5, hg⟩ := hg.cons
    obtain ⟨v6, _, rfl, a6, b6, hg⟩ := hg.cons
    obtain ⟨v7, _, rfl, a7, b7, hg⟩ := hg.cons
    cases hg.nil
    exact ⟨_, _, _, _, _, _, _, _, rfl, hf⟩
  rintro _ ⟨u0, u1, u2, u3, u4, u5, u6, u7, rfl, hf⟩
  obtain ⟨c0, d0, hf⟩ := hf
  obtain ⟨c1, d1, hf⟩ := hf
  obtain ⟨c2, d2, hf⟩ := hf
  obtain ⟨c3, d3, hf⟩ := hf
  obtain ⟨c4, d4, hf⟩ := hf
  obtain ⟨c5, d5, hf⟩ := hf
  obtain ⟨c6, d6, hf⟩ := hf
  obtain ⟨c7, d7, _⟩ := hf
  obtain ⟨rs, hrs⟩ : ∃ rs, rs = [u0, u1, u2, u3, u4, u5, u6, u7] := ⟨_, rfl⟩
  have l0 : atI (rs.map D.int) 0 = some (.int u0) := by rw [hrs]; rfl
  have l1 : atI (rs.map D.int) 1 = some (.int u1) := by rw [hrs]; rfl
  have l2 : atI (rs.map D.int) 2 = some (.int u2) := by rw [hrs]; rfl
  have l3 : atI (rs.map D.int) 3 = some (.int u3) := by rw [hrs]; rfl
  have l4 : atI (rs.map D.int) 4 = some (.int u4) := by rw [hrs]; rfl
  have l5 : atI (rs.map D.int) 5 = some (.int u5) := by rw [hrs]; rfl
  have l6 : atI (rs.map D.int) 6 = some (.int u6) := by rw [hrs]; rfl
  have l7 : atI (rs.map D.int) 7 = some (.int u7) := by rw [hrs]; rfl
  rw [← hrs]
  clear hrs
  obtain ⟨ov, hov, ho1, ho2⟩ := over3 c3 d3
  have m0 := mb (u0 + 2) sc (by omega) (by omega) hs1 hs2
  have m0' := m0.2.2 (by omega)
  have m1 := mb (u1 + 1) sc (by omega) (by omega) hs1 hs2
  have m1' := m1.2.2 (by omega)
  refine ss_seq (ss_cut (fun z => ∃ n : Bn, z = [some (scD ns), some (iL ws), some (.int sc), some (bL bs), some (.lst ((flL bs).map flD)), some (iL rs), some (num8 n), none, none, none, none, none, none, none, none, none, none] ∧ BnOk n ∧ n.cl = 1 ∧ n.gt = 1 ∧ n.fl = false) ?_ ?_)
  · array_get_dec
    exact ⟨⟨(u0 + 2) * sc, (u1 + 1) * sc, u2, ov, u4, u5, u6, u7, 1, 1, false⟩, rfl, ⟨by dsimp only; omega, by dsimp only; omega, by dsimp only; omega, by dsimp only; omega, by dsimp only; omega, by dsimp only; omega, by dsimp only; omega, by dsimp only; omega, by dsimp only; omega, by dsimp only; omega⟩, rfl, rfl, rfl⟩
  rintro _ ⟨n, rfl, hb, h1, h2, h3⟩
  refine ss_seq (ss_cut (fun z => z = [some (scD ns), some (iL ws), some (.int sc), some (bL bs), some (.lst ((flL bs).map flD)), some (iL rs), some (num8 n), some (bookD n), none, none, none, none, none, none, none, none, none]) ?_ ?_)
  · array_get_dec
    exact Rs.of (book8 hb h1 h2 h3) rfl
  rintro _ rfl
  refine ss_seq (ss_cut (fun z => ∃ xs, z = [some (scD ns), some (iL ws), some (.int sc), some (bL bs), some (.lst ((flL bs).map flD)), some (iL rs), some (num8 n), some (bookD n), some (.lst (trip st0 (goR (movesS n bs) st0 xs))), none, none, none, none, none, none, none, none] ∧ Drawn bs n xs) ?_ ?_)
  · array_get_dec
    refine Rs.of (cell_eq ns 4) ?_
    array_get_dec
    refine rs_mulL ⟨by omega, by omega, Nat.le_of_ble_eq_true rfl⟩ ?_
    array_get_dec
    refine row_of _ (List.replicate 8 60) ?_ (by decide) fun vs hf => ?_
    · intro l hl
      obtain rfl := (List.mem_replicate.mp hl).2
      omega
    refine (drawn_sp (pk := vs) hw hb (by rw [hf.len]; simp; omega)).imp ?_
    rintro d ⟨xs, rfl, h⟩
    exact ⟨xs, rfl, h⟩
  rintro _ ⟨xs, rfl, hd⟩
  have hx8 := hd.m
  have hx1 := drawn_pos hd (by omega)
  have hrun := run_of (n := n) (xs := xs) hw
  have hrm := run_map hrun hd.l
  have hdl := hd.l
  have hbk := fun pr => broken_eq hw hb (show xs.length ≤ 1000 by omega) hd pr
  obtain ⟨ms, hms⟩ : ∃ ms, goR (movesS n bs) st0 xs = ms := ⟨_, rfl⟩
  rw [hms] at hrun hrm hdl hbk ⊢
  have htl : (trip st0 ms).length = xs.length := by rw [trip_len, hdl]
  refine ss_seq (ss_cut (fun z => z = [some (scD ns), some (iL ws), some (.int sc), some (bL bs), some (.lst ((flL bs).map flD)), some (iL rs), some (num8 n), some (bookD n), some (.lst (trip st0 ms)), some (layD xs), none, none, none, none, none, none, none]) ?_ ?_)
  · array_get_dec
    refine Rs.bind ?_
    show Rs (dIt itemsL (dVar 8) [some (scD ns), some (iL ws), some (.int sc), some (bL bs), some (.lst ((flL bs).map flD)), some (iL rs), some (num8 n), some (bookD n), some (.lst (trip st0 ms)), none, none, none, none, none, none, none, none]) _ _
    refine rs_it (rs_var rfl (rs_itsL (rs_guard (by rw [htl]; exact Nat.le_trans (by omega) sz5) ?_)))
    rw [show trip st0 ms = (trip st0 ms).map id from (List.map_id _).symm, lc_mapX id tr1 (trip st0 ms) fun d hd => ?_]
    · rw [trip_map, show (ms.map fun m => seD (mvSp m)) = xs.map seD from by rw [← hrm, List.map_map]; rfl]
      refine Rs.of (a := .lst (xs.map seD)) rfl ?_
      array_get_dec
      rfl
    · obtain ⟨s, m, rfl⟩ := trip_mem ms st0 d hd
      exact ⟨_, rfl, rfl, rs_op (rs_var rfl (rs_c (rs_ixc (ds := [stD s, seD (mvSp m), stD m.n]) 1 rfl rfl)))⟩
  rintro _ rfl
  refine ss_seq (ss_cut (fun z => z = [some (scD ns), some (iL ws), some (.int sc), some (bL bs), some (.lst ((flL bs).map flD)), some (iL rs), some (num8 n), some (bookD n), some (.lst (trip st0 ms)), some (layD xs), none, some (galD bs), none, none, none, none, none]) ?_ ?_)
  · array_get_dec
    exact Rs.of (ginit bs hw) rfl
  rintro _ rfl
  have m3 := mb v3 sc (by omega) (by omega) hs1 hs2
  have m4 := mb v4 sc (by omega) (by omega) hs1 hs2
  refine ss_seq (ss_cut (fun z => ∃ P : List Pr, z = [some (scD ns), some (iL ws), some (.int sc), some (bL bs), some (.lst ((flL bs).map flD)), some (iL rs), some (num8 n), some (bookD n), some (.lst (trip st0 ms)), some (layD xs), none, some (galD bs), some (.lst (P.map prD)), none, none, none, none] ∧ P.length = 6 ∧ ∀ pr ∈ P, ∀ k, pr = .lo k → 0 ≤ k) ?_ ?_)
  · array_get_dec
    refine ⟨[.lo (v3 * sc), .kp, .orp, .wid, .em (v4 * sc), .fi], rfl, rfl, fun pr hpr k hk => ?_⟩
    subst hk
    simp only [List.mem_cons, List.not_mem_nil, or_false, Pr.lo.injEq, reduceCtorEq] at hpr
    omega
  rintro _ ⟨P, rfl, hP6, hP⟩
  refine ss_seq (ss_cut (fun z => ∃ x13 x14, z = [some (scD ns), some (iL ws), some (.int sc), some (bL bs), some (.lst ((flL bs).map flD)), some (iL rs), some (num8 n), some (bookD n), some (.lst (trip st0 ms)), some (layD xs), none, some (galD bs), some (.lst (P.map prD)), x13, x14, none, none]) ?_ ?_)
  · refine ss_each prD (P ++ P.take 1) (fun _ z => ∃ x13 x14, z = [some (scD ns), some (iL ws), some (.int sc), some (bL bs), some (.lst ((flL bs).map flD)), some (iL rs), some (num8 n), some (bookD n), some (.lst (trip st0 ms)), some (layD xs), none, some (galD bs), some (.lst (P.map prD)), x13, x14, none, none]) ?_ ⟨none, none, rfl⟩ ?_ ?_
    · refine rs_op (rs_var rfl (rs_sl (rs_var rfl (rs_noP (rs_part (rs_c (rs_asI (rs_slL ?_))))))))
      rw [show cutL (P.map prD) none (some 1) = (P.take 1).map prD from by rw [show (1 : Int) = ((1 : Nat) : Int) from rfl, cut_take, List.map_take]]
      refine rs_addLL ?_ ?_
      · refine Nat.le_trans (m := 100000) ?_ sz5
        rw [List.length_map, List.length_map, List.length_take]
        omega
      · rw [← List.map_append]
    · rintro j pr z hj ⟨x13, x14, rfl⟩
      have hpr : ∀ k, pr = .lo k → 0 ≤ k := by
        rcases List.mem_append.mp (List.mem_of_getElem? hj) with h | h
        · exact hP pr h
        · exact hP pr (List.mem_of_mem_take h)
      unfold Lp_law_1
      show Ss (seqF _ _ [some (scD ns), some (iL ws), some (.int sc), some (bL bs), some (.lst ((flL bs).map flD)), some (iL rs), some (num8 n), some (bookD n), some (.lst (trip st0 ms)), some (layD xs), none, some (galD bs), some (.lst (P.map prD)), some (prD pr), x14, none, none]) _ _ _ _ _
      refine ss_seq (ss_cut (fun z => z = [some (scD ns), some (iL ws), some (.int sc), some (bL bs), some (.lst ((flL bs).map flD)), some (iL rs), some (num8 n), some (bookD n), some (.lst (trip st0 ms)), some (layD xs), none, some (galD bs), some (.lst (P.map prD)), some (prD pr), some (oD (brk n bs pr ms)), none, none]) ?_ ?_)
      · refine ss_set (rs_call (rs_cons (rs_var rfl (rs_cons (rs_var rfl (rs_cons (rs_var rfl (rs_cons (rs_var rfl (rs_cons (rs_var rfl (rs_nil ?_))))))))))))
        exact Rs.of (first_eq hw pr hpr hrun (by omega)) rfl
      rintro _ rfl
      refine ss_seq (ss_cut (fun z => z = [some (scD ns), some (iL ws), some (.int sc), some (bL bs), some (.lst ((flL bs).map flD)), some (iL rs), some (num8 n), some (bookD n), some (.lst (trip st0 ms)), some (layD xs), none, some (galD bs), some (.lst (P.map prD)), some (prD pr), some (oD (brk n bs pr ms)), none, none]) ?_ ?_)
      · refine ss_if (rs_not (rs_T (rs_call (rs_cons (rs_call (rs_cons (rs_var rfl (rs_cons (rs_var rfl (rs_cons (rs_var rfl (rs_cons (rs_var rfl (rs_nil ?_))))))))))))))
        refine Rs.of (hbk pr) (rs_cons (rs_var rfl (rs_nil (Rs.of (same_oD 7 _) (rs_asB ?_)))))
        exact ⟨fun z => (by cases z), fun _ => rfl⟩
      rintro _ rfl
      refine ss_if (rs_T (rs_op (rs_call (rs_cons ?_))))
      refine Rs.of ginit0 (rs_cons (rs_var rfl (rs_cons (rs_tup (rs_nil ⟨Nat.zero_le _, rs_cons (rs_var rfl (rs_nil ?_))⟩)))))
      refine Rs.of (broken_0 hb pr) (rs_c (rs_isn (rs_asB ?_)))
      exact ⟨fun z => (by cases z), fun _ => ⟨_, _, rfl⟩⟩
    · rintro z ⟨x13, x14, rfl⟩
      exact ⟨x13, x14, rfl⟩
  rintro _ ⟨x13, x14, rfl⟩
  obtain ⟨q, hq⟩ : ∃ q : Nat, v6 = (q : Int) := ⟨v6.toNat, by omega⟩
  obtain ⟨pr, hqp⟩ : ∃ pr, P[q]? = some pr := ⟨_, List.getElem?_eq_getElem (by omega)⟩
  have hpr := hP pr (List.mem_of_getElem? hqp)
  have hqa : atI (P.map prD) v6 = some (prD pr) := by rw [hq]; exact atI_nat (by rw [List.getElem?_map, hqp]; rfl)
  refine ss_seq (ss_cut (fun z => z = [some (scD ns), some (iL ws), some (.int sc), some (bL bs), some (.lst ((flL bs).map flD)), some (iL rs), some (num8 n), some (bookD n), some (.lst (trip st0 ms)), some (layD xs), none, some (galD bs), some (.lst (P.map prD)), some (prD pr), x14, none, none]) ?_ ?_)
  · array_get_dec
    rfl
  rintro _ rfl
  have hcut : cutL (xs.map seD) none (some (-1)) = (xs.take (xs.length - 1)).map seD := by
    rw [show (-1 : Int) = -((1 : Nat) : Int) from rfl, cut_back _ 1 (by decide), List.length_map, List.map_take]
  refine ss_seq (ss_cut (fun z => z = [some (scD ns), some (iL ws), some (.int sc), some (bL bs), some (.lst ((flL bs).map flD)), some (iL rs), some (num8 n), some (bookD n), some (.lst (trip st0 ms)), some (layD xs), none, some (galD bs), some (.lst (P.map prD)), some (prD pr), x14, none, none]) ?_ ?_)
  · refine ss_if (rs_not (rs_T (rs_call (rs_cons (rs_var rfl (rs_cons (rs_var rfl (rs_cons ?_))))))))
    refine rs_sl (rs_var rfl (rs_noP (rs_part (rs_un (rs_c (rs_neg (rs_asI (rs_slT ?_))))))))
    rw [hcut]
    refine rs_cons (rs_var rfl (rs_cons (rs_op (rs_call (rs_cons (rs_var rfl (rs_nil (rs_lenT (rs_c (rs_sub (rs_nil ?_)))))))))))
    rw [List.length_map, show (xs.length : Int) - 1 = ((xs.length - 1 : Nat) : Int) from by omega]
    refine Rs.of (refused_eq hw hb (by rw [List.length_take]; omega) pr (verd_cut hw hd hx1)) (rs_asB ?_)
    exact ⟨fun z => (by cases z), fun _ => rfl⟩
  rintro _ rfl
  have hm1 := Int.emod_nonneg v8 (show (xs.length : Int) ≠ 0 by omega)
  have hm2 := Int.emod_lt_of_pos v8 (show (0 : Int) < (xs.length : Int) by omega)
  obtain ⟨k, hk⟩ : ∃ k : Nat, v8 % (xs.length : Int) = (k : Int) := ⟨(v8 % (xs.length : Int)).toNat, by omega⟩
  have hkx : k < xs.length := by omega
  have hsl := spoil_len ((pieces bs).length : Int) v5 hkx
  have hsv := spoil_verd hw hd ((pieces bs).length : Int) v5 hkx
  have hse := spoilt_eq ((pieces bs).length : Int) v5 hkx (by omega)
  obtain ⟨ys, i, hsp⟩ : ∃ ys i, spoil xs ((pieces bs).length : Int) v5 k = (ys, i) := ⟨_, _, rfl⟩
  rw [hsp] at hsl hsv hse
  refine ss_seq (ss_cut (fun z => z = [some (scD ns), some (iL ws), some (.int sc), some (bL bs), some (.lst ((flL bs).map flD)), some (iL rs), some (num8 n), some (bookD n), some (.lst (trip st0 ms)), some (layD xs), none, some (galD bs), some (.lst (P.map prD)), some (prD pr), x14, some (layD ys), some (.int (i : Int))]) ?_ ?_)
  · refine ss_asg (rs_call (rs_cons (rs_var rfl (rs_cons (rs_call (rs_cons (rs_var rfl (rs_nil (rs_lenL ?_)))))))))
    rw [List.length_map, flA_len]
    refine rs_cons (rs_op (rs_var rfl (rs_c (rs_ixL j5 (rs_cons (rs_op (rs_call (rs_cons (rs_op (rs_var rfl (rs_c (rs_ixL j8 (rs_nil (rs_int ?_))))))))))))))
    refine rs_call (rs_cons (rs_var rfl (rs_nil (rs_lenT ?_))))
    rw [List.length_map]
    refine rs_mod (show (0 : Int) < (xs.length : Int) by omega) ?_
    rw [hk]
    refine rs_nil ?_
    exact Rs.of hse ⟨_, rfl, rfl⟩
  rintro _ rfl
  refine ss_seq (ss_cut (fun z => z = [some (scD ns), some (iL ws), some (.int sc), some (bL bs), some (.lst ((flL bs).map flD)), some (iL rs), some (num8 n), some (bookD n), some (.lst (trip st0 ms)), some (layD xs), none, some (galD bs), some (.lst (P.map prD)), some (prD pr), x14, some (layD ys), some (.int (i : Int))]) ?_ ?_)
  · refine ss_if (rs_not (rs_T (rs_call (rs_cons (rs_var rfl (rs_cons (rs_var rfl (rs_cons (rs_var rfl (rs_cons (rs_var rfl (rs_cons (rs_var rfl (rs_nil ?_))))))))))))))
    refine Rs.of (refused_eq hw hb (by dsimp only at hsl; omega) pr hsv) (rs_asB ?_)
    exact ⟨fun z => (by cases z), fun _ => rfl⟩
  rintro _ rfl
  refine ss_seq (ss_cut (fun z => z = [some (scD ns), some (iL ws), some (.int sc), some (bL bs), some (.lst ((flL bs).map flD)), some (iL rs), some (num8 n), some (bookD n), some (.lst (trip st0 ms)), some (layD xs), none, some (galD bs), some (.lst (P.map prD)), some (prD pr), some (oD (brk n bs pr ms)), some (layD ys), some (.int (i : Int))]) ?_ ?_)
  · refine ss_set (rs_call (rs_cons (rs_var rfl (rs_cons (rs_var rfl (rs_cons (rs_var rfl (rs_cons (rs_var rfl (rs_cons (rs_var rfl (rs_nil ?_))))))))))))
    exact Rs.of (first_eq hw pr hpr hrun (by omega)) rfl
  rintro _ rfl
  refine ss_ret (rs_andV (rs_call (rs_cons (rs_call (rs_cons (rs_var rfl (rs_cons (rs_var rfl (rs_cons (rs_var rfl (rs_cons (rs_var rfl (rs_nil ?_)))))))))))))
  refine Rs.of (hbk pr) (rs_cons (rs_var rfl (rs_nil (Rs.of (same_oD 7 _) (rs_asB ?_)))))
  refine rs_call (rs_cons (rs_call (rs_cons (rs_var rfl (rs_nil (rs_listG hw ?_))))))
  refine rs_cons (rs_var rfl (rs_nil (Rs.of (same_bL 2 bs hw) ?_)))
  exact rs_asB rfl)
end
end Lk
end S_M
section S_P_walk
set_option Elab.async false
set_option linter.all false
set_option maxRecDepth 100000
set_option maxHeartbeats 4000000
namespace Lk
open PySem L2 Dx
def topS (i : Nat) : Stmt := PySem.Challenge.pw_laidforall_k45_broken_at.main.body.getD i (.Pass ⟨0, 0, 0, 0⟩)
abbrev s_Galley_pieces : Stmt := inClass (topS 37) 6
theorem sc_Galley_pieces : FnScope ["self"] ["self"] (defScope s_Galley_pieces) := ⟨rfl, rfl, rfl, by decide +kernel, rfl, by decide +kernel, by decide +kernel⟩
abbrev s_Galley_block_at : Stmt := inClass (topS 37) 8
theorem sc_Galley_block_at : FnScope ["self", "piece"] ["self", "piece"] (defScope s_Galley_block_at) := ⟨rfl, rfl, rfl, by decide +kernel, rfl, by decide +kernel, by decide +kernel⟩
abbrev s_bare_width : Stmt := topS 9
theorem sc_bare_width : FnScope ["galley", "start", "end", "span", "pieces", "width", "piece"] ["galley", "start", "end"] (defScope s_bare_width) := ⟨rfl, rfl, rfl, by decide +kernel, rfl, by decide +kernel, by decide +kernel⟩
abbrev s_line_width : Stmt := topS 10
theorem sc_line_width : FnScope ["galley", "start", "end", "width", "tie"] ["galley", "start", "end"] (defScope s_line_width) := ⟨rfl, rfl, rfl, by decide +kernel, rfl, by decide +kernel, by decide +kernel⟩
abbrev s_line_gap : Stmt := topS 11
theorem sc_line_gap : FnScope ["galley", "book", "start", "end"] ["galley", "book", "start", "end"] (defScope s_line_gap) := ⟨rfl, rfl, rfl, by decide +kernel, rfl, by decide +kernel, by decide +kernel⟩
abbrev s_line_cost : Stmt := topS 12
theorem sc_line_cost : FnScope ["galley", "book", "start", "end", "gap", "excess", "cost"] ["galley", "book", "start", "end"] (defScope s_line_cost) := ⟨rfl, rfl, rfl, by decide +kernel, rfl, by decide +kernel, by decide +kernel⟩
abbrev s_line_ends : Stmt := topS 13
theorem sc_line_ends : FnScope ["galley", "book", "start", "ends", "end"] ["galley", "book", "start"] (defScope s_line_ends) := ⟨rfl, rfl, rfl, by decide +kernel, rfl, by decide +kernel, by decide +kernel⟩
abbrev s_line_need : Stmt := topS 14
theorem sc_line_need : FnScope ["galley", "start", "end", "span", "block", "need", "piece"] ["galley", "start", "end"] (defScope s_line_need) := ⟨rfl, rfl, rfl, by decide +kernel, rfl, by decide +kernel, by decide +kernel⟩
abbrev s_turn_cost : Stmt := topS 15
theorem sc_turn_cost : FnScope ["galley", "book", "state", "end", "done", "used", "placed", "first", "block", "start", "stop", "free", "cost"] ["galley", "book", "state", "end"] (defScope s_turn_cost) := ⟨rfl, rfl, rfl, by decide +kernel, rfl, by decide +kernel, by decide +kernel⟩
abbrev s_called_ahead : Stmt := topS 16
theorem sc_called_ahead : FnScope ["galley", "done", "piece"] ["galley", "done"] (defScope s_called_ahead) := ⟨rfl, rfl, rfl, by decide +kernel, rfl, by decide +kernel, by decide +kernel⟩
abbrev s_Galley_figures : Stmt := inClass (topS 37) 7
theorem sc_Galley_figures : FnScope ["self"] ["self"] (defScope s_Galley_figures) := ⟨rfl, rfl, rfl, by decide +kernel, rfl, by decide +kernel, by decide +kernel⟩
abbrev s_moves_to : Stmt := topS 17
theorem sc_moves_to : FnScope ["galley", "book", "state", "end", "done", "used", "placed", "first", "span", "need", "cost", "opens", "moves", "waiting", "many", "top", "late"] ["galley", "book", "state", "end"] (defScope s_moves_to) := ⟨rfl, rfl, rfl, by decide +kernel, rfl, by decide +kernel, by decide +kernel⟩
abbrev s_Galley_len : Stmt := inClass (topS 37) 1
theorem sc_Galley_len : FnScope ["self"] ["self"] (defScope s_Galley_len) := ⟨rfl, rfl, rfl, by decide +kernel, rfl, by decide +kernel, by decide +kernel⟩
abbrev s_moves_of : Stmt := topS 18
theorem sc_moves_of : FnScope ["galley", "book", "state", "done", "moves", "end"] ["galley", "book", "state"] (defScope s_moves_of) := ⟨rfl, rfl, rfl, by decide +kernel, rfl, by decide +kernel, by decide +kernel⟩
abbrev s_made_moves : Stmt := topS 19
theorem sc_made_moves : FnScope ["galley", "book", "laying", "made", "state", "at", "step", "move"] ["galley", "book", "laying"] (defScope s_made_moves) := ⟨rfl, rfl, rfl, by decide +kernel, rfl, by decide +kernel, by decide +kernel⟩
abbrev s_states_of : Stmt := topS 20
theorem sc_states_of : FnScope ["galley", "book", "laying", "move"] ["galley", "book", "laying"] (defScope s_states_of) := ⟨rfl, rfl, rfl, by decide +kernel, rfl, by decide +kernel, by decide +kernel⟩
abbrev s_is_forbidden : Stmt := topS 22
theorem sc_is_forbidden : FnScope ["galley", "book", "promise", "state", "step", "after", "block", "begin", "stop"] ["galley", "book", "promise", "state", "step", "after"] (defScope s_is_forbidden) := ⟨rfl, rfl, rfl, by decide +kernel, rfl, by decide +kernel, by decide +kernel⟩
abbrev s_broken_at : Stmt := topS 23
theorem sc_broken_at : FnScope ["galley", "book", "laying", "promise", "states", "index"] ["galley", "book", "laying", "promise"] (defScope s_broken_at) := ⟨rfl, rfl, rfl, by decide +kernel, rfl, by decide +kernel, by decide +kernel⟩
abbrev s_is_number : Stmt := topS 25
theorem sc_is_number : FnScope ["value"] ["value"] (defScope s_is_number) := ⟨rfl, rfl, rfl, by decide +kernel, rfl, by decide +kernel, by decide +kernel⟩
abbrev s_is_within : Stmt := topS 26
theorem sc_is_within : FnScope ["value", "least", "most"] ["value", "least", "most"] (defScope s_is_within) := ⟨rfl, rfl, rfl, by decide +kernel, rfl, by decide +kernel, by decide +kernel⟩
abbrev s_Book_init : Stmt := inClass (topS 30) 1
theorem sc_Book_init : FnScope ["self", "room", "height", "joint", "over", "keep", "orphan", "widow", "wait", "columns", "gutter", "full", "numbers", "field", "number", "least", "most"] ["self", "room", "height", "joint", "over", "keep", "orphan", "widow", "wait", "columns", "gutter", "full"] (defScope s_Book_init) := ⟨rfl, rfl, rfl, by decide +kernel, rfl, by decide +kernel, by decide +kernel⟩
abbrev s_pieces_in : Stmt := topS 34
theorem sc_pieces_in : FnScope ["blocks", "block", "piece"] ["blocks"] (defScope s_pieces_in) := ⟨rfl, rfl, rfl, by decide +kernel, rfl, by decide +kernel, by decide +kernel⟩
abbrev s_figures_in : Stmt := topS 35
theorem sc_figures_in : FnScope ["blocks", "piece", "height"] ["blocks"] (defScope s_figures_in) := ⟨rfl, rfl, rfl, by decide +kernel, rfl, by decide +kernel, by decide +kernel⟩
abbrev s_spans_in : Stmt := topS 36
theorem sc_spans_in : FnScope ["blocks", "spans", "at", "block", "start", "end"] ["blocks"] (defScope s_spans_in) := ⟨rfl, rfl, rfl, by decide +kernel, rfl, by decide +kernel, by decide +kernel⟩
abbrev s_Galley_init : Stmt := inClass (topS 37) 0
theorem sc_Galley_init : FnScope ["self", "blocks", "pieces", "figures"] ["self", "blocks"] (defScope s_Galley_init) := ⟨rfl, rfl, rfl, by decide +kernel, rfl, by decide +kernel, by decide +kernel⟩
abbrev s_l_cell : Stmt := topS 39
theorem sc_l_cell : FnScope ["_law_script", "_law_k"] ["_law_script", "_law_k"] (defScope s_l_cell) := ⟨rfl, rfl, rfl, by decide +kernel, rfl, by decide +kernel, by decide +kernel⟩
abbrev s_l_row : Stmt := topS 40
theorem sc_l_row : FnScope ["_law_cell_here", "_law_limits", "_law_row_here", "_law_rest", "_law_limit", "_law_k", "_law_mixed"] ["_law_cell_here", "_law_limits"] (defScope s_l_row) := ⟨rfl, rfl, rfl, by decide +kernel, rfl, by decide +kernel, by decide +kernel⟩
abbrev s_l_number : Stmt := topS 41
theorem sc_l_number : FnScope ["_law_value"] ["_law_value"] (defScope s_l_number) := ⟨rfl, rfl, rfl, by decide +kernel, rfl, by decide +kernel, by decide +kernel⟩
abbrev s_l_same : Stmt := topS 42
theorem sc_l_same : FnScope ["_law_one", "_law_two", "_law_k"] ["_law_one", "_law_two"] (defScope s_l_same) := ⟨rfl, rfl, rfl, by decide +kernel, rfl, by decide +kernel, by decide +kernel⟩
abbrev s_l_block : Stmt := topS 43
theorem sc_l_block : FnScope ["_law_cell_here", "_law_many", "_law_scale", "_law_limits", "_law_k", "_law_row_here", "_law_pieces", "_law_tie", "_law_notes", "_law_figures"] ["_law_cell_here", "_law_many", "_law_scale"] (defScope s_l_block) := ⟨rfl, rfl, rfl, by decide +kernel, rfl, by decide +kernel, by decide +kernel⟩
abbrev s_l_few : Stmt := topS 44
theorem sc_l_few : FnScope ["_law_blocks", "_law_called", "_law_out", "_law_block_here", "_law_pieces", "_law_piece", "_law_figures"] ["_law_blocks"] (defScope s_l_few) := ⟨rfl, rfl, rfl, by decide +kernel, rfl, by decide +kernel, by decide +kernel⟩
abbrev s_l_flat : Stmt := topS 45
theorem sc_l_flat : FnScope ["_law_blocks", "_law_flat_here", "_law_b", "_law_start", "_law_piece"] ["_law_blocks"] (defScope s_l_flat) := ⟨rfl, rfl, rfl, by decide +kernel, rfl, by decide +kernel, by decide +kernel⟩
abbrev s_l_width : Stmt := topS 46
theorem sc_l_width : FnScope ["_law_blocks", "_law_flat_here", "_law_start", "_law_end", "_law_total", "_law_k", "_law_piece"] ["_law_blocks", "_law_flat_here", "_law_start", "_law_end"] (defScope s_l_width) := ⟨rfl, rfl, rfl, by decide +kernel, rfl, by decide +kernel, by decide +kernel⟩
abbrev s_l_moves : Stmt := topS 47
theorem sc_l_moves : FnScope ["_law_blocks", "_law_flat_here", "_law_nums", "_law_state", "_law_done", "_law_used", "_law_placed", "_law_first_here", "_law_out", "_law_start", "_law_stop", "_law_figures", "_law_called", "_law_k", "_law_block_here", "_law_end", "_law_need", "_law_goes_on", "_law_many", "_law_top"] ["_law_blocks", "_law_flat_here", "_law_nums", "_law_state"] (defScope s_l_moves) := ⟨rfl, rfl, rfl, by decide +kernel, rfl, by decide +kernel, by decide +kernel⟩
abbrev s_l_walk : Stmt := topS 48
theorem sc_l_walk : FnScope ["_law_blocks", "_law_flat_here", "_law_nums", "_law_picks", "_law_state", "_law_made", "_law_k", "_law_moves_here", "_law_step", "_law_after"] ["_law_blocks", "_law_flat_here", "_law_nums", "_law_picks"] (defScope s_l_walk) := ⟨rfl, rfl, rfl, by decide +kernel, rfl, by decide +kernel, by decide +kernel⟩
abbrev s_l_forbidden : Stmt := topS 49
theorem sc_l_forbidden : FnScope ["_law_blocks", "_law_flat_here", "_law_nums", "_law_promise", "_law_state", "_law_step", "_law_after", "_law_done", "_law_start", "_law_stop", "_law_wide"] ["_law_blocks", "_law_flat_here", "_law_nums", "_law_promise", "_law_state", "_law_step", "_law_after"] (defScope s_l_forbidden) := ⟨rfl, rfl, rfl, by decide +kernel, rfl, by decide +kernel, by decide +kernel⟩
abbrev s_l_first : Stmt := topS 50
theorem sc_l_first : FnScope ["_law_blocks", "_law_flat_here", "_law_nums", "_law_promise", "_law_made", "_law_k"] ["_law_blocks", "_law_flat_here", "_law_nums", "_law_promise", "_law_made"] (defScope s_l_first) := ⟨rfl, rfl, rfl, by decide +kernel, rfl, by decide +kernel, by decide +kernel⟩
abbrev s_l_refused : Stmt := topS 51
theorem sc_l_refused : FnScope ["_law_galley", "_law_book_here", "_law_laying", "_law_promise", "_law_index", "e"] ["_law_galley", "_law_book_here", "_law_laying", "_law_promise", "_law_index"] (defScope s_l_refused) := ⟨rfl, rfl, rfl, by decide +kernel, rfl, by decide +kernel, by decide +kernel⟩
abbrev s_l_spoilt : Stmt := topS 52
theorem sc_l_spoilt : FnScope ["_law_steps", "_law_many", "_law_way", "_law_at"] ["_law_steps", "_law_many", "_law_way", "_law_at"] (defScope s_l_spoilt) := ⟨rfl, rfl, rfl, by decide +kernel, rfl, by decide +kernel, by decide +kernel⟩
abbrev s_l_book : Stmt := topS 53
theorem sc_l_book : FnScope ["_law_nums"] ["_law_nums"] (defScope s_l_book) := ⟨rfl, rfl, rfl, by decide +kernel, rfl, by decide +kernel, by decide +kernel⟩
abbrev s_law : Stmt := topS 54
theorem sc_law : FnScope ["_law_script", "_law_way", "_law_scale", "_law_blocks", "_law_flat_here", "_law_row_here", "_law_nums", "_law_book_here", "_law_made", "_law_steps", "_law_move", "_law_galley", "_law_promises", "_law_promise", "_law_due", "_law_bad", "_law_index"] ["_law_script"] (defScope s_law) := ⟨rfl, rfl, rfl, by decide +kernel, rfl, by decide +kernel, by decide +kernel⟩
abbrev s_Galley_iter : Stmt := inClass (topS 37) 2
theorem sc_Galley_iter : FnScope ["self"] ["self"] (defScope s_Galley_iter) := ⟨rfl, rfl, rfl, by decide +kernel, rfl, by decide +kernel, by decide +kernel⟩
abbrev s_BadBook : Stmt := inClass (topS 4) 0
theorem sc_BadBook : FnScope ["self", "field"] ["self", "field"] (defScope s_BadBook) := ⟨rfl, rfl, rfl, by decide +kernel, rfl, by decide +kernel, by decide +kernel⟩
abbrev s_BadLaying : Stmt := inClass (topS 5) 0
theorem sc_BadLaying : FnScope ["self", "step"] ["self", "step"] (defScope s_BadLaying) := ⟨rfl, rfl, rfl, by decide +kernel, rfl, by decide +kernel, by decide +kernel⟩
abbrev s_NoSuchNumber : Stmt := inClass (topS 6) 0
theorem sc_NoSuchNumber : FnScope ["self", "number"] ["self", "number"] (defScope s_NoSuchNumber) := ⟨rfl, rfl, rfl, by decide +kernel, rfl, by decide +kernel, by decide +kernel⟩
abbrev s_TooLarge : Stmt := inClass (topS 3) 0
theorem sc_TooLarge : FnScope ["self", "many"] ["self", "many"] (defScope s_TooLarge) := ⟨rfl, rfl, rfl, by decide +kernel, rfl, by decide +kernel, by decide +kernel⟩
structure Txt (K : PySem.W.Frag) (mg : Str → Option Value) where
  f_Galley_pieces : Addr
  fd_Galley_pieces : FuncData
  F_Galley_pieces : Fun K "pieces" "Galley.pieces" s_Galley_pieces f_Galley_pieces fd_Galley_pieces
  b_Galley_pieces : L2.Binds K fd_Galley_pieces ["self"] []
  f_Galley_block_at : Addr
  fd_Galley_block_at : FuncData
  F_Galley_block_at : Fun K "block_at" "Galley.block_at" s_Galley_block_at f_Galley_block_at fd_Galley_block_at
  b_Galley_block_at : L2.Binds K fd_Galley_block_at ["self", "piece"] []
  f_bare_width : Addr
  fd_bare_width : FuncData
  F_bare_width : Fun K "bare_width" "bare_width" s_bare_width f_bare_width fd_bare_width
  g_bare_width : mg "bare_width" = some (.ref f_bare_width)
  b_bare_width : L2.Binds K fd_bare_width ["galley", "start", "end"] []
  f_line_width : Addr
  fd_line_width : FuncData
  F_line_width : Fun K "line_width" "line_width" s_line_width f_line_width fd_line_width
  g_line_width : mg "line_width" = some (.ref f_line_width)
  b_line_width : L2.Binds K fd_line_width ["galley", "start", "end"] []
  f_line_gap : Addr
  fd_line_gap : FuncData
  F_line_gap : Fun K "line_gap" "line_gap" s_line_gap f_line_gap fd_line_gap
  g_line_gap : mg "line_gap" = some (.ref f_line_gap)
  b_line_gap : L2.Binds K fd_line_gap ["galley", "book", "start", "end"] []
  f_line_cost : Addr
  fd_line_cost : FuncData
  F_line_cost : Fun K "line_cost" "line_cost" s_line_cost f_line_cost fd_line_cost
  g_line_cost : mg "line_cost" = some (.ref f_line_cost)
  b_line_cost : L2.Binds K fd_line_cost ["galley", "book", "start", "end"] []
  f_line_ends : Addr
  fd_line_ends : FuncData
  F_line_ends : Fun K "line_ends" "line_ends" s_line_ends f_line_ends fd_line_ends
  g_line_ends : mg "line_ends" = some (.ref f_line_ends)
  b_line_ends : L2.Binds K fd_line_ends ["galley", "book", "start"] []
  f_line_need : Addr
  fd_line_need : FuncData
  F_line_need : Fun K "line_need" "line_need" s_line_need f_line_need fd_line_need
  g_line_need : mg "line_need" = some (.ref f_line_need)
  b_line_need : L2.Binds K fd_line_need ["galley", "start", "end"] []
  f_turn_cost : Addr
  fd_turn_cost : FuncData
  F_turn_cost : Fun K "turn_cost" "turn_cost" s_turn_cost f_turn_cost fd_turn_cost
  g_turn_cost : mg "turn_cost" = some (.ref f_turn_cost)
  b_turn_cost : L2.Binds K fd_turn_cost ["galley", "book", "state", "end"] []
  f_called_ahead : Addr
  fd_called_ahead : FuncData
  F_called_ahead : Fun K "called_ahead" "called_ahead" s_called_ahead f_called_ahead fd_called_ahead
  g_called_ahead : mg "called_ahead" = some (.ref f_called_ahead)
  b_called_ahead : L2.Binds K fd_called_ahead ["galley", "done"] []
  f_Galley_figures : Addr
  fd_Galley_figures : FuncData
  F_Galley_figures : Fun K "figures" "Galley.figures" s_Galley_figures f_Galley_figures fd_Galley_figures
  b_Galley_figures : L2.Binds K fd_Galley_figures ["self"] []
  f_moves_to : Addr
  fd_moves_to : FuncData
  F_moves_to : Fun K "moves_to" "moves_to" s_moves_to f_moves_to fd_moves_to
  g_moves_to : mg "moves_to" = some (.ref f_moves_to)
  b_moves_to : L2.Binds K fd_moves_to ["galley", "book", "state", "end"] []
  f_Galley_len : Addr
  fd_Galley_len : FuncData
  F_Galley_len : Fun K "__len__" "Galley.__len__" s_Galley_len f_Galley_len fd_Galley_len
  b_Galley_len : L2.Binds K fd_Galley_len ["self"] []
  f_moves_of : Addr
  fd_moves_of : FuncData
  F_moves_of : Fun K "moves_of" "moves_of" s_moves_of f_moves_of fd_moves_of
  g_moves_of : mg "moves_of" = some (.ref f_moves_of)
  b_moves_of : L2.Binds K fd_moves_of ["galley", "book", "state"] []
  f_made_moves : Addr
  fd_made_moves : FuncData
  F_made_moves : Fun K "made_moves" "made_moves" s_made_moves f_made_moves fd_made_moves
  g_made_moves : mg "made_moves" = some (.ref f_made_moves)
  b_made_moves : L2.Binds K fd_made_moves ["galley", "book", "laying"] []
  f_states_of : Addr
  fd_states_of : FuncData
  F_states_of : Fun K "states_of" "states_of" s_states_of f_states_of fd_states_of
  g_states_of : mg "states_of" = some (.ref f_states_of)
  b_states_of : L2.Binds K fd_states_of ["galley", "book", "laying"] []
  f_is_forbidden : Addr
  fd_is_forbidden : FuncData
  F_is_forbidden : Fun K "is_forbidden" "is_forbidden" s_is_forbidden f_is_forbidden fd_is_forbidden
  g_is_forbidden : mg "is_forbidden" = some (.ref f_is_forbidden)
  b_is_forbidden : L2.Binds K fd_is_forbidden ["galley", "book", "promise", "state", "step", "after"] []
  f_broken_at : Addr
  fd_broken_at : FuncData
  F_broken_at : Fun K "broken_at" "broken_at" s_broken_at f_broken_at fd_broken_at
  g_broken_at : mg "broken_at" = some (.ref f_broken_at)
  b_broken_at : L2.Binds K fd_broken_at ["galley", "book", "laying", "promise"] []
  f_is_number : Addr
  fd_is_number : FuncData
  F_is_number : Fun K "is_number" "is_number" s_is_number f_is_number fd_is_number
  g_is_number : mg "is_number" = some (.ref f_is_number)
  b_is_number : L2.Binds K fd_is_number ["value"] []
  f_is_within : Addr
  fd_is_within : FuncData
  F_is_within : Fun K "is_within" "is_within" s_is_within f_is_within fd_is_within
  g_is_within : mg "is_within" = some (.ref f_is_within)
  b_is_within : L2.Binds K fd_is_within ["value", "least", "most"] []
  f_Book_init : Addr
  fd_Book_init : FuncData
  F_Book_init : Fun K "__init__" "Book.__init__" s_Book_init f_Book_init fd_Book_init
  kd_Book_init : List Value
  kb_Book_init : KBn K fd_Book_init ["self", "room", "height", "joint", "over", "keep", "orphan", "widow", "wait", "columns", "gutter", "full"] 3 ["joint", "over", "keep", "orphan", "widow", "wait"] (fun us ws => us ++ ws ++ kd_Book_init) (fun vs zs => vs ++ zs ++ [.int 1, .int 1, .bl false])
  f_pieces_in : Addr
  fd_pieces_in : FuncData
  F_pieces_in : Fun K "pieces_in" "pieces_in" s_pieces_in f_pieces_in fd_pieces_in
  g_pieces_in : mg "pieces_in" = some (.ref f_pieces_in)
  b_pieces_in : L2.Binds K fd_pieces_in ["blocks"] []
  f_figures_in : Addr
  fd_figures_in : FuncData
  F_figures_in : Fun K "figures_in" "figures_in" s_figures_in f_figures_in fd_figures_in
  g_figures_in : mg "figures_in" = some (.ref f_figures_in)
  b_figures_in : L2.Binds K fd_figures_in ["blocks"] []
  f_spans_in : Addr
  fd_spans_in : FuncData
  F_spans_in : Fun K "spans_in" "spans_in" s_spans_in f_spans_in fd_spans_in
  g_spans_in : mg "spans_in" = some (.ref f_spans_in)
  b_spans_in : L2.Binds K fd_spans_in ["blocks"] []
  f_Galley_init : Addr
  fd_Galley_init : FuncData
  F_Galley_init : FunE K "__init__" "Galley.__init__" s_Galley_init f_Galley_init fd_Galley_init
  b_Galley_init : L2.Binds K fd_Galley_init ["self", "blocks"] []
  e_Galley_init : Addr
  bd_Galley_init : L2.Binds K fd_Galley_init ["self", "blocks"] [.ref e_Galley_init]
  kt_Galley_init : ∀ {cm : CM} (S : Hp), Rp K cm S (.ref e_Galley_init) (.kt [])
  f_l_cell : Addr
  fd_l_cell : FuncData
  F_l_cell : Fun K "_law_cell" "_law_cell" s_l_cell f_l_cell fd_l_cell
  g_l_cell : mg "_law_cell" = some (.ref f_l_cell)
  b_l_cell : L2.Binds K fd_l_cell ["_law_script", "_law_k"] []
  f_l_row : Addr
  fd_l_row : FuncData
  F_l_row : Fun K "_law_row" "_law_row" s_l_row f_l_row fd_l_row
  g_l_row : mg "_law_row" = some (.ref f_l_row)
  b_l_row : L2.Binds K fd_l_row ["_law_cell_here", "_law_limits"] []
  f_l_number : Addr
  fd_l_number : FuncData
  F_l_number : Fun K "_law_number" "_law_number" s_l_number f_l_number fd_l_number
  g_l_number : mg "_law_number" = some (.ref f_l_number)
  b_l_number : L2.Binds K fd_l_number ["_law_value"] []
  f_l_same : Addr
  fd_l_same : FuncData
  F_l_same : Fun K "_law_same" "_law_same" s_l_same f_l_same fd_l_same
  g_l_same : mg "_law_same" = some (.ref f_l_same)
  b_l_same : L2.Binds K fd_l_same ["_law_one", "_law_two"] []
  f_l_block : Addr
  fd_l_block : FuncData
  F_l_block : Fun K "_law_block" "_law_block" s_l_block f_l_block fd_l_block
  g_l_block : mg "_law_block" = some (.ref f_l_block)
  b_l_block : L2.Binds K fd_l_block ["_law_cell_here", "_law_many", "_law_scale"] []
  f_l_few : Addr
  fd_l_few : FuncData
  F_l_few : Fun K "_law_few" "_law_few" s_l_few f_l_few fd_l_few
  g_l_few : mg "_law_few" = some (.ref f_l_few)
  b_l_few : L2.Binds K fd_l_few ["_law_blocks"] []
  f_l_flat : Addr
  fd_l_flat : FuncData
  F_l_flat : Fun K "_law_flat" "_law_flat" s_l_flat f_l_flat fd_l_flat
  g_l_flat : mg "_law_flat" = some (.ref f_l_flat)
  b_l_flat : L2.Binds K fd_l_flat ["_law_blocks"] []
  f_l_width : Addr
  fd_l_width : FuncData
  F_l_width : Fun K "_law_width" "_law_width" s_l_width f_l_width fd_l_width
  g_l_width : mg "_law_width" = some (.ref f_l_width)
  b_l_width : L2.Binds K fd_l_width ["_law_blocks", "_law_flat_here", "_law_start", "_law_end"] []
  f_l_moves : Addr
  fd_l_moves : FuncData
  F_l_moves : Fun K "_law_moves" "_law_moves" s_l_moves f_l_moves fd_l_moves
  g_l_moves : mg "_law_moves" = some (.ref f_l_moves)
  b_l_moves : L2.Binds K fd_l_moves ["_law_blocks", "_law_flat_here", "_law_nums", "_law_state"] []
  f_l_walk : Addr
  fd_l_walk : FuncData
  F_l_walk : Fun K "_law_walk" "_law_walk" s_l_walk f_l_walk fd_l_walk
  g_l_walk : mg "_law_walk" = some (.ref f_l_walk)
  b_l_walk : L2.Binds K fd_l_walk ["_law_blocks", "_law_flat_here", "_law_nums", "_law_picks"] []
  f_l_forbidden : Addr
  fd_l_forbidden : FuncData
  F_l_forbidden : Fun K "_law_forbidden" "_law_forbidden" s_l_forbidden f_l_forbidden fd_l_forbidden
  g_l_forbidden : mg "_law_forbidden" = some (.ref f_l_forbidden)
  b_l_forbidden : L2.Binds K fd_l_forbidden ["_law_blocks", "_law_flat_here", "_law_nums", "_law_promise", "_law_state", "_law_step", "_law_after"] []
  f_l_first : Addr
  fd_l_first : FuncData
  F_l_first : Fun K "_law_first" "_law_first" s_l_first f_l_first fd_l_first
  g_l_first : mg "_law_first" = some (.ref f_l_first)
  b_l_first : L2.Binds K fd_l_first ["_law_blocks", "_law_flat_here", "_law_nums", "_law_promise", "_law_made"] []
  f_l_refused : Addr
  fd_l_refused : FuncData
  F_l_refused : Fun K "_law_refused" "_law_refused" s_l_refused f_l_refused fd_l_refused
  g_l_refused : mg "_law_refused" = some (.ref f_l_refused)
  b_l_refused : L2.Binds K fd_l_refused ["_law_galley", "_law_book_here", "_law_laying", "_law_promise", "_law_index"] []
  f_l_spoilt : Addr
  fd_l_spoilt : FuncData
  F_l_spoilt : Fun K "_law_spoilt" "_law_spoilt" s_l_spoilt f_l_spoilt fd_l_spoilt
  g_l_spoilt : mg "_law_spoilt" = some (.ref f_l_spoilt)
  b_l_spoilt : L2.Binds K fd_l_spoilt ["_law_steps", "_law_many", "_law_way", "_law_at"] []
  f_l_book : Addr
  fd_l_book : FuncData
  F_l_book : Fun K "_law_book" "_law_book" s_l_book f_l_book fd_l_book
  g_l_book : mg "_law_book" = some (.ref f_l_book)
  b_l_book : L2.Binds K fd_l_book ["_law_nums"] []
  f_law : Addr
  fd_law : FuncData
  F_law : Fun K "law" "law" s_law f_law fd_law
  g_law : mg "law" = some (.ref f_law)
  b_law : L2.Binds K fd_law ["_law_script"] []
  f_Galley_iter : Addr
  fd_Galley_iter : FuncData
  F_Galley_iter : Fun K "__iter__" "Galley.__iter__" s_Galley_iter f_Galley_iter fd_Galley_iter
  b_Galley_iter : L2.Binds K fd_Galley_iter ["self"] []
  n_bool : mg "bool" = none
  n_enumerate : mg "enumerate" = none
  n_int : mg "int" = none
  n_isinstance : mg "isinstance" = none
  n_iter : mg "iter" = none
  n_len : mg "len" = none
  n_list : mg "list" = none
  n_max : mg "max" = none
  n_range : mg "range" = none
  n_str : mg "str" = none
  n_sum : mg "sum" = none
  n_tuple : mg "tuple" = none
  n_zip : mg "zip" = none
  k_LEAST : Addr
  c_LEAST : mg "LEAST" = some (.ref k_LEAST)
  kc_LEAST : ∀ {cm : CM} (S : Hp), Rp K cm S (.ref k_LEAST) (.kt [.int 1, .int 1, .int 0, .int 0, .int 0, .int 0, .int 0, .int 0, .int 1, .int 0])
  k_MOST : Addr
  c_MOST : mg "MOST" = some (.ref k_MOST)
  kc_MOST : ∀ {cm : CM} (S : Hp), Rp K cm S (.ref k_MOST) (.kt [.int 2000, .int 2000, .int 2000, .int 2000, .int 2000, .int 2000, .int 2000, .int 2000, .int 4, .int 40])
  t_MOST_FIGURES : Tok
  c_MOST_FIGURES : mg "MOST_FIGURES" = some (.int 4 t_MOST_FIGURES)
  t_MOST_PIECES : Tok
  c_MOST_PIECES : mg "MOST_PIECES" = some (.int 40 t_MOST_PIECES)
  k_START : Addr
  c_START : mg "START" = some (.ref k_START)
  kc_START : ∀ {cm : CM} (S : Hp), Rp K cm S (.ref k_START) (.kt [.int 0, .int 0, .int 0, .bl false])
  a_BadBook : Addr
  g_BadBook : mg "BadBook" = some (.ref a_BadBook)
  a_BadLaying : Addr
  g_BadLaying : mg "BadLaying" = some (.ref a_BadLaying)
  a_LaidError : Addr
  g_LaidError : mg "LaidError" = some (.ref a_LaidError)
  a_NoSuchNumber : Addr
  g_NoSuchNumber : mg "NoSuchNumber" = some (.ref a_NoSuchNumber)
  a_TooLarge : Addr
  g_TooLarge : mg "TooLarge" = some (.ref a_TooLarge)
  o_BadBook : OexC K a_BadBook
  fI_BadBook : Addr
  fdI_BadBook : FuncData
  i_BadBook : PySem.W.findIn K (.ref a_BadBook) "__init__" = some (some (.ref fI_BadBook))
  ti_BadBook : PySem.W.typeIn K (.ref fI_BadBook) = some (.type "function")
  FI_BadBook : Fun K "__init__" "BadBook.__init__" s_BadBook fI_BadBook fdI_BadBook
  b_BadBook : L2.Binds K fdI_BadBook ["self", "field"] []
  no_BadBook_field : PySem.W.findIn K (.ref a_BadBook) "field" = some none
  xf_BadBook : XfC K a_BadBook
  xc_BadBook : ExcC K a_BadBook
  e_BadBook_BadLaying : PySem.W.exmOne K (.ref a_BadBook) (.ref a_BadLaying) = some false
  q_BadBook_LaidError : PySem.W.kitOne K (.ref a_BadBook) (.ref a_LaidError) = some true
  o_BadLaying : OexC K a_BadLaying
  fI_BadLaying : Addr
  fdI_BadLaying : FuncData
  i_BadLaying : PySem.W.findIn K (.ref a_BadLaying) "__init__" = some (some (.ref fI_BadLaying))
  ti_BadLaying : PySem.W.typeIn K (.ref fI_BadLaying) = some (.type "function")
  FI_BadLaying : Fun K "__init__" "BadLaying.__init__" s_BadLaying fI_BadLaying fdI_BadLaying
  b_BadLaying : L2.Binds K fdI_BadLaying ["self", "step"] []
  no_BadLaying_step : PySem.W.findIn K (.ref a_BadLaying) "step" = some none
  xf_BadLaying : XfC K a_BadLaying
  xc_BadLaying : ExcC K a_BadLaying
  e_BadLaying_BadLaying : PySem.W.exmOne K (.ref a_BadLaying) (.ref a_BadLaying) = some true
  q_BadLaying_LaidError : PySem.W.kitOne K (.ref a_BadLaying) (.ref a_LaidError) = some true
  o_NoSuchNumber : OexC K a_NoSuchNumber
  fI_NoSuchNumber : Addr
  fdI_NoSuchNumber : FuncData
  i_NoSuchNumber : PySem.W.findIn K (.ref a_NoSuchNumber) "__init__" = some (some (.ref fI_NoSuchNumber))
  ti_NoSuchNumber : PySem.W.typeIn K (.ref fI_NoSuchNumber) = some (.type "function")
  FI_NoSuchNumber : Fun K "__init__" "NoSuchNumber.__init__" s_NoSuchNumber fI_NoSuchNumber fdI_NoSuchNumber
  b_NoSuchNumber : L2.Binds K fdI_NoSuchNumber ["self", "number"] []
  no_NoSuchNumber_number : PySem.W.findIn K (.ref a_NoSuchNumber) "number" = some none
  xf_NoSuchNumber : XfC K a_NoSuchNumber
  xc_NoSuchNumber : ExcC K a_NoSuchNumber
  e_NoSuchNumber_BadLaying : PySem.W.exmOne K (.ref a_NoSuchNumber) (.ref a_BadLaying) = some false
  q_NoSuchNumber_LaidError : PySem.W.kitOne K (.ref a_NoSuchNumber) (.ref a_LaidError) = some true
  o_TooLarge : OexC K a_TooLarge
  fI_TooLarge : Addr
  fdI_TooLarge : FuncData
  i_TooLarge : PySem.W.findIn K (.ref a_TooLarge) "__init__" = some (some (.ref fI_TooLarge))
  ti_TooLarge : PySem.W.typeIn K (.ref fI_TooLarge) = some (.type "function")
  FI_TooLarge : Fun K "__init__" "TooLarge.__init__" s_TooLarge fI_TooLarge fdI_TooLarge
  b_TooLarge : L2.Binds K fdI_TooLarge ["self", "many"] []
  no_TooLarge_many : PySem.W.findIn K (.ref a_TooLarge) "many" = some none
  xf_TooLarge : XfC K a_TooLarge
  xc_TooLarge : ExcC K a_TooLarge
  e_TooLarge_BadLaying : PySem.W.exmOne K (.ref a_TooLarge) (.ref a_BadLaying) = some false
  q_TooLarge_LaidError : PySem.W.kitOne K (.ref a_TooLarge) (.ref a_LaidError) = some true
  a_Book : Addr
  g_Book : mg "Book" = some (.ref a_Book)
  cl_Book : L2.Cls K a_Book
  a_Galley : Addr
  g_Galley : mg "Galley" = some (.ref a_Galley)
  cl_Galley : L2.Cls K a_Galley
  mk_Book : L2.Mk K a_Book f_Book_init
  mk_Galley : L2.Mk K a_Galley f_Galley_init
  na_Book_columns : L2.NoAttr K a_Book "columns"
  na_Book_field_values : L2.NoAttr K a_Book "field_values"
  na_Book_full : L2.NoAttr K a_Book "full"
  na_Book_gutter : L2.NoAttr K a_Book "gutter"
  na_Book_height : L2.NoAttr K a_Book "height"
  na_Book_joint : L2.NoAttr K a_Book "joint"
  na_Book_keep : L2.NoAttr K a_Book "keep"
  na_Book_orphan : L2.NoAttr K a_Book "orphan"
  na_Book_over : L2.NoAttr K a_Book "over"
  na_Book_room : L2.NoAttr K a_Book "room"
  na_Book_wait : L2.NoAttr K a_Book "wait"
  na_Book_widow : L2.NoAttr K a_Book "widow"
  na_Galley_all_figures : L2.NoAttr K a_Galley "all_figures"
  na_Galley_all_pieces : L2.NoAttr K a_Galley "all_pieces"
  na_Galley_blocks : L2.NoAttr K a_Galley "blocks"
  na_Galley_spans : L2.NoAttr K a_Galley "spans"
  m_Galley___iter__ : L2.Meth K a_Galley "__iter__" f_Galley_iter
  m_Galley___len__ : L2.Meth K a_Galley "__len__" f_Galley_len
  m_Galley_block_at : L2.Meth K a_Galley "block_at" f_Galley_block_at
  pp_Galley_figures : Addr
  pr_Galley_figures : L2.PropOf K a_Galley "figures" pp_Galley_figures f_Galley_figures
  pp_Galley_pieces : Addr
  pr_Galley_pieces : L2.PropOf K a_Galley "pieces" pp_Galley_pieces f_Galley_pieces
  cr_Book : ClX.CRead K a_Book (.type "type")
  kv_Book_FIELDS : Addr
  kvc_Book_FIELDS : ∀ {cm : CM} (S : Hp), Rp K cm S (.ref kv_Book_FIELDS) (.kt [.str "room", .str "height", .str "joint", .str "over", .str "keep", .str "orphan", .str "widow", .str "wait", .str "columns", .str "gutter", .str "full"])
  cv_Book_FIELDS : ClX.CVal K a_Book (.type "type") "FIELDS" (.ref kv_Book_FIELDS) (.ref kv_Book_FIELDS)
def Txt.cm {K : PySem.W.Frag} {mg : Str → Option Value} (T : Txt K mg) : CM := fun n => if n = "BadBook" then some T.a_BadBook else if n = "BadLaying" then some T.a_BadLaying else if n = "NoSuchNumber" then some T.a_NoSuchNumber else if n = "TooLarge" then some T.a_TooLarge else if n = "Book" then some T.a_Book else if n = "Galley" then some T.a_Galley else none
section
variable {P : Program} {w : World} {K : PySem.W.Frag} {mg : Str → Option Value} {base : Heap}
theorem Txt.cm_BadBook (T : Txt K mg) : T.cm "BadBook" = some T.a_BadBook := by unfold Txt.cm; rw [if_pos rfl]
theorem Txt.cm_BadLaying (T : Txt K mg) : T.cm "BadLaying" = some T.a_BadLaying := by unfold Txt.cm; rw [if_neg (by decide), if_pos rfl]
theorem Txt.cm_NoSuchNumber (T : Txt K mg) : T.cm "NoSuchNumber" = some T.a_NoSuchNumber := by unfold Txt.cm; rw [if_neg (by decide), if_neg (by decide), if_pos rfl]
theorem Txt.cm_TooLarge (T : Txt K mg) : T.cm "TooLarge" = some T.a_TooLarge := by unfold Txt.cm; rw [if_neg (by decide), if_neg (by decide), if_neg (by decide), if_pos rfl]
theorem Txt.cm_Book (T : Txt K mg) : T.cm "Book" = some T.a_Book := by unfold Txt.cm; rw [if_neg (by decide), if_neg (by decide), if_neg (by decide), if_neg (by decide), if_pos rfl]
theorem Txt.cm_Galley (T : Txt K mg) : T.cm "Galley" = some T.a_Galley := by unfold Txt.cm; rw [if_neg (by decide), if_neg (by decide), if_neg (by decide), if_neg (by decide), if_neg (by decide), if_pos rfl]
theorem Txt.exm_BadLaying (T : Txt K mg) : ∀ n C b, T.cm n = some C → isM_BadLaying n = some b → PySem.W.exmOne K (.ref C) (.ref T.a_BadLaying) = some b := by
  intro n C b h1 h2
  unfold Txt.cm at h1
  unfold isM_BadLaying at h2
  by_cases e0 : n = "BadBook"
  · subst e0; simp at h1 h2; subst h1 h2; exact T.e_BadBook_BadLaying
  by_cases e1 : n = "BadLaying"
  · subst e1; simp [e0] at h1 h2; subst h1 h2; exact T.e_BadLaying_BadLaying
  by_cases e2 : n = "NoSuchNumber"
  · subst e2; simp [e0, e1] at h1 h2; subst h1 h2; exact T.e_NoSuchNumber_BadLaying
  by_cases e3 : n = "TooLarge"
  · subst e3; simp [e0, e1, e2] at h1 h2; subst h1 h2; exact T.e_TooLarge_BadLaying
  simp [e0, e1, e2, e3] at h2
theorem Txt.xf_of_BadLaying (T : Txt K mg) {C : Addr} (h : ∃ n, T.cm n = some C ∧ isM_BadLaying n = some true) : XfC K C := by
  obtain ⟨n, h1, h2⟩ := h
  unfold Txt.cm at h1
  unfold isM_BadLaying at h2
  by_cases e0 : n = "BadBook"
  · subst e0; simp at h2
  by_cases e1 : n = "BadLaying"
  · subst e1; simp [e0] at h1; subst h1; exact T.xf_BadLaying
  by_cases e2 : n = "NoSuchNumber"
  · subst e2; simp [e0, e1] at h2
  by_cases e3 : n = "TooLarge"
  · subst e3; simp [e0, e1, e2] at h2
  simp [e0, e1, e2, e3] at h2
theorem Txt.xc_of_BadLaying (T : Txt K mg) {C : Addr} (h : ∃ n, T.cm n = some C ∧ isM_BadLaying n = some true) : ExcC K C := by
  obtain ⟨n, h1, h2⟩ := h
  unfold Txt.cm at h1
  unfold isM_BadLaying at h2
  by_cases e0 : n = "BadBook"
  · subst e0; simp at h2
  by_cases e1 : n = "BadLaying"
  · subst e1; simp [e0] at h1; subst h1; exact T.xc_BadLaying
  by_cases e2 : n = "NoSuchNumber"
  · subst e2; simp [e0, e1] at h2
  by_cases e3 : n = "TooLarge"
  · subst e3; simp [e0, e1, e2] at h2
  simp [e0, e1, e2, e3] at h2
theorem Txt.no_of_BadLaying_step (T : Txt K mg) {C : Addr} (h : ∃ n, T.cm n = some C ∧ isM_BadLaying n = some true) : PySem.W.findIn K (.ref C) "step" = some none := by
  obtain ⟨n, h1, h2⟩ := h
  unfold Txt.cm at h1
  unfold isM_BadLaying at h2
  by_cases e0 : n = "BadBook"
  · subst e0; simp at h2
  by_cases e1 : n = "BadLaying"
  · subst e1; simp [e0] at h1; subst h1; exact T.no_BadLaying_step
  by_cases e2 : n = "NoSuchNumber"
  · subst e2; simp [e0, e1] at h2
  by_cases e3 : n = "TooLarge"
  · subst e3; simp [e0, e1, e2] at h2
  simp [e0, e1, e2, e3] at h2
theorem Txt.isi_LaidError (T : Txt K mg) : ∀ n C b, T.cm n = some C → isM_LaidError n = some b → PySem.W.kitOne K (.ref C) (.ref T.a_LaidError) = some b := by
  intro n C b h1 h2
  unfold Txt.cm at h1
  unfold isM_LaidError at h2
  by_cases e0 : n = "BadBook"
  · subst e0; simp at h1 h2; subst h1 h2; exact T.q_BadBook_LaidError
  by_cases e1 : n = "BadLaying"
  · subst e1; simp [e0] at h1 h2; subst h1 h2; exact T.q_BadLaying_LaidError
  by_cases e2 : n = "NoSuchNumber"
  · subst e2; simp [e0, e1] at h1 h2; subst h1 h2; exact T.q_NoSuchNumber_LaidError
  by_cases e3 : n = "TooLarge"
  · subst e3; simp [e0, e1, e2] at h1 h2; subst h1 h2; exact T.q_TooLarge_LaidError
  simp [e0, e1, e2, e3] at h2
theorem ox_BadBook (T : Txt K mg) : FnOk P w K mg base (L2.CX P w) 1 T.fI_BadBook T.fdI_BadBook ["self", "field"] (spX1 K T.a_BadBook "field") := xinit1 T.FI_BadBook sc_BadBook rfl rfl fun cdv A outer s H E => pss_one (ps_ost (pv 0) (pv 1))
theorem ox_BadLaying (T : Txt K mg) : FnOk P w K mg base (L2.CX P w) 1 T.fI_BadLaying T.fdI_BadLaying ["self", "step"] (spX1 K T.a_BadLaying "step") := xinit1 T.FI_BadLaying sc_BadLaying rfl rfl fun cdv A outer s H E => pss_one (ps_ost (pv 0) (pv 1))
theorem ox_NoSuchNumber (T : Txt K mg) : FnOk P w K mg base (L2.CX P w) 1 T.fI_NoSuchNumber T.fdI_NoSuchNumber ["self", "number"] (spX1 K T.a_NoSuchNumber "number") := xinit1 T.FI_NoSuchNumber sc_NoSuchNumber rfl rfl fun cdv A outer s H E => pss_one (ps_ost (pv 0) (pv 1))
theorem ox_TooLarge (T : Txt K mg) : FnOk P w K mg base (L2.CX P w) 1 T.fI_TooLarge T.fdI_TooLarge ["self", "many"] (spX1 K T.a_TooLarge "many") := xinit1 T.FI_TooLarge sc_TooLarge rfl rfl fun cdv A outer s H E => pss_one (ps_ost (pv 0) (pv 1))
theorem ok_it_Galley (T : Txt K mg) : ItOk P w K mg base 1 T.f_Galley_iter T.a_Galley "blocks" := iter_ok T.F_Galley_iter sc_Galley_iter rfl rfl T.cl_Galley T.na_Galley_blocks T.b_Galley_iter fun cdv A outer s H E => pss_one (ps_ret (pe_callB ItX.call_iterN (by rfl) T.n_iter (by decide +kernel) (pa_cons (pe_fld (pv 0) rfl) pa_nil)))
theorem ok_ln_Galley (T : Txt K mg) : FnOk P w K mg base (L2.CX P w) 1 T.f_Galley_len T.fd_Galley_len ["self"] (spLn K T.a_Galley "all_pieces") := len_ok T.F_Galley_len sc_Galley_len rfl rfl T.cl_Galley T.na_Galley_all_pieces fun cdv A outer s H E => pss_one (ps_ret (pe_callB call_lenX (by rfl) T.n_len (by decide +kernel) (pa_cons (pe_fld (pv 0) rfl) pa_nil)))
theorem okW_l_number (T : Txt K mg) : FnW P w K mg base (L2.CX P w) 1 T.f_l_number T.fd_l_number ["_law_value"] (spD K T.cm [false] false FH_l_number)   := dokW (G' := []) (k := 0) T.F_l_number sc_l_number rfl (by decide) fun cdv A outer s H E p hr =>
  (ds_one (ds_ret gok0 rfl (de_and (de_isi "int" T.n_isinstance (by rfl) (by rfl) T.n_int (by decide +kernel) (db_var 0 (pv 0) (.inl (by rfl)))) (de_one (de_not (de_isi "bool" T.n_isinstance (by rfl) (by rfl) T.n_bool (by decide +kernel) (db_var 0 (pv 0) (.inl (by rfl)))))))))
theorem ok_Galley_pieces (T : Txt K mg) : FnOk P w K mg base (L2.CX P w) 1 T.f_Galley_pieces T.fd_Galley_pieces ["self"] (spD K T.cm [true] false F_Galley_pieces)   := dok (G' := []) (k := 0) T.F_Galley_pieces sc_Galley_pieces rfl (by decide) fun cdv A outer s H E hr =>
  (ds_one (ds_ret gok0 rfl (de_pub (de_type call_list_of cs_list (by rfl) T.n_list (by decide +kernel) (dm_bor (db_of (de_fld T.cm_Galley T.cl_Galley T.na_Galley_all_pieces (db_var 0 (pv 0) (.inr (.inr (by rfl)))))) dm_nil)))))
theorem ok_Galley_block_at (T : Txt K mg) : FnOk P w K mg base (L2.CX P w) 3 T.f_Galley_block_at T.fd_Galley_block_at ["self", "piece"] (spD K T.cm [true, false] false F_Galley_block_at)   := dok (G' := []) (k := 2) T.F_Galley_block_at sc_Galley_block_at rfl (by decide) fun cdv A outer s H E hr =>
  (ds_cons (ds_if gok0 (dt_not (dt_chain or_le os_ord or_lt os_ord (db_of de_int) (db_var 1 (pv 1) (.inl (by rfl))) (db_of (de_bltn call_len cs_len (by rfl) T.n_len (by decide +kernel) (dm_bor (db_of (de_fld T.cm_Galley T.cl_Galley T.na_Galley_spans (db_var 0 (pv 0) (.inr (.inr (by rfl)))))) dm_nil)))))
  (ds_one (ds_raise1 gok0 T.cm_NoSuchNumber rfl (takes_of rfl rfl rfl rfl) T.o_NoSuchNumber T.i_NoSuchNumber T.ti_NoSuchNumber T.no_NoSuchNumber_number (ox_NoSuchNumber T) (hr.mono (by decide)) T.b_NoSuchNumber (by rfl) T.g_NoSuchNumber (da_cons (de_var 1 (pv 1) rfl) da_nil)))
  ds_nil)
  (ds_one (ds_ret gok0 rfl (de_ix (db_of (de_fld T.cm_Galley T.cl_Galley T.na_Galley_spans (db_var 0 (pv 0) (.inr (.inr (by rfl)))))) (db_var 1 (pv 1) (.inl (by rfl))) (fun _ _ => rfl)))))
theorem ok_bare_width (T : Txt K mg) : FnOk P w K mg base (L2.CX P w) 5 T.f_bare_width T.fd_bare_width ["galley", "start", "end"] (spD K T.cm [true, false, false] false F_bare_width)   := dok (G' := []) (k := 4) T.F_bare_width sc_bare_width rfl (by decide) fun cdv A outer s H E hr =>
  (ds_cons (ds_set 3 gok0 sc_bare_width.nd rfl (by first | exact Or.inl rfl | exact Or.inr rfl) (de_meth (rm := false) T.cm_Galley T.cl_Galley T.m_Galley_block_at (ok_Galley_block_at T) (takes_of rfl rfl rfl rfl) (hr.mono (by decide)) T.b_Galley_block_at (db_var 0 (pv 0) (.inr (.inr (by rfl)))) (dm_val (de_var 1 (pv 1) rfl) dm_nil)))
  (ds_cons (ds_set 4 gok0 sc_bare_width.nd rfl (by first | exact Or.inl rfl | exact Or.inr rfl) (de_prop (rm := false) T.cm_Galley T.cl_Galley T.pr_Galley_pieces (ok_Galley_pieces T) (hr.mono (by decide)) T.b_Galley_pieces (db_var 0 (pv 0) (.inr (.inr (by rfl))))))
  (ds_cons (ds_set 5 gok0 sc_bare_width.nd rfl (by first | exact Or.inl rfl | exact Or.inr rfl) (de_ix (db_of (de_ix (db_var 4 (pv 4) (.inl (by rfl))) (db_of (de_op op_sub os_sub (db_var 2 (pv 2) (.inl (by rfl))) (db_of de_int))) (fun _ _ => rfl))) (db_of de_int) (fun _ _ => rfl)))
  (ds_cons (ds_if gok0 (dt_cmp (or_eq hr.units) os_eq (db_var 1 (pv 1) (.inl (by rfl))) (db_of (de_ix (db_var 3 (pv 3) (.inl (by rfl))) (db_of de_int) (fun _ _ => rfl))) (nomark _))
  (ds_one (ds_set 5 gok0 sc_bare_width.nd rfl (by first | exact Or.inl rfl | exact Or.inr rfl) (de_op or_add os_add (db_var 5 (pv 5) (.inl (by rfl))) (db_of (de_ix (db_of (de_ix (db_own (de_type (call_listO T.m_Galley___iter__ (ok_it_Galley T) T.m_Galley___len__ (ok_ln_Galley T) T.b_Galley_len (hr.mono (by decide)) rfl) (cs_listO T.cm_Galley) (by rfl) T.n_list (by decide +kernel) (dm_bor (db_var 0 (pv 0) (.inr (.inr (by rfl)))) dm_nil))) (db_of (de_ix (db_var 3 (pv 3) (.inl (by rfl))) (db_of de_int) (fun _ _ => rfl))) (fun _ _ => rfl))) (db_of de_int) (fun _ _ => rfl))))))
  ds_nil)
  (ds_cons (ds_for gok0 (passes_of rfl) rfl (di_list (de_sl (db_var 4 (pv 4) (.inl (by rfl))) (dp_some (de_var 1 (pv 1) rfl)) (dp_some (de_op op_sub os_sub (db_var 2 (pv 2) (.inl (by rfl))) (db_of de_int))))) (dg_name 6 sc_bare_width.nd rfl (by first | exact Or.inl rfl | exact Or.inr rfl))
  (ds_cons (ds_set 5 gok0 sc_bare_width.nd rfl (by first | exact Or.inl rfl | exact Or.inr rfl) (de_op or_add os_add (db_var 5 (pv 5) (.inl (by rfl))) (db_of (de_ix (db_var 6 (pv 6) (.inl (by rfl))) (db_of de_int) (fun _ _ => rfl)))))
  (ds_one (ds_if gok0 (dt_cmp (or_eq hr.units) os_eq (db_of (de_ix (db_of (de_ix (db_var 6 (pv 6) (.inl (by rfl))) (db_of de_int) (fun _ _ => rfl))) (db_of de_int) (fun _ _ => rfl))) (db_of (de_strL (by decide +kernel))) (nomark _))
  (ds_one (ds_set 5 gok0 sc_bare_width.nd rfl (by first | exact Or.inl rfl | exact Or.inr rfl) (de_op or_add os_add (db_var 5 (pv 5) (.inl (by rfl))) (db_of (de_ix (db_of (de_ix (db_var 6 (pv 6) (.inl (by rfl))) (db_of de_int) (fun _ _ => rfl))) (db_of de_int) (fun _ _ => rfl))))))
  ds_nil))))
  (ds_one (ds_ret gok0 rfl (de_var 5 (pv 5) rfl))))))))
theorem ok_line_width (T : Txt K mg) : FnOk P w K mg base (L2.CX P w) 6 T.f_line_width T.fd_line_width ["galley", "start", "end"] (spD K T.cm [true, false, false] false F_line_width)   := dok (G' := []) (k := 5) T.F_line_width sc_line_width rfl (by decide) fun cdv A outer s H E hr =>
  (ds_cons (ds_set 3 gok0 sc_line_width.nd rfl (by first | exact Or.inl rfl | exact Or.inr rfl) (de_callV (ok_bare_width T) (takes_of rfl rfl rfl rfl) (hr.mono (by decide)) (by rfl) T.g_bare_width T.F_bare_width.kp T.b_bare_width (dm_bor (db_var 0 (pv 0) (.inr (.inr (by rfl)))) (dm_val (de_var 1 (pv 1) rfl) (dm_val (de_var 2 (pv 2) rfl) dm_nil)))))
  (ds_cons (ds_set 4 gok0 sc_line_width.nd rfl (by first | exact Or.inl rfl | exact Or.inr rfl) (de_ix (db_of (de_ix (db_of (de_prop (rm := false) T.cm_Galley T.cl_Galley T.pr_Galley_pieces (ok_Galley_pieces T) (hr.mono (by decide)) T.b_Galley_pieces (db_var 0 (pv 0) (.inr (.inr (by rfl)))))) (db_of (de_op op_sub os_sub (db_var 2 (pv 2) (.inl (by rfl))) (db_of de_int))) (fun _ _ => rfl))) (db_of de_int) (fun _ _ => rfl)))
  (ds_cons (ds_if gok0 (dt_cmp (or_eq hr.units) os_eq (db_of (de_ix (db_var 4 (pv 4) (.inl (by rfl))) (db_of de_int) (fun _ _ => rfl))) (db_of (de_strL (by decide +kernel))) (nomark _))
  (ds_one (ds_set 3 gok0 sc_line_width.nd rfl (by first | exact Or.inl rfl | exact Or.inr rfl) (de_op or_add os_add (db_var 3 (pv 3) (.inl (by rfl))) (db_of (de_ix (db_var 4 (pv 4) (.inl (by rfl))) (db_of de_int) (fun _ _ => rfl))))))
  ds_nil)
  (ds_one (ds_ret gok0 rfl (de_var 3 (pv 3) rfl))))))
theorem ok_line_gap (T : Txt K mg) : FnOk P w K mg base (L2.CX P w) 7 T.f_line_gap T.fd_line_gap ["galley", "book", "start", "end"] (spD K T.cm [true, false, false, false] false F_line_gap)   := dok (G' := []) (k := 6) T.F_line_gap sc_line_gap rfl (by decide) fun cdv A outer s H E hr =>
  (ds_cons (ds_if gok0 (dt_cmp (or_eq hr.units) os_eq (db_var 3 (pv 3) (.inl (by rfl))) (db_of (de_ix (db_of (de_meth (rm := false) T.cm_Galley T.cl_Galley T.m_Galley_block_at (ok_Galley_block_at T) (takes_of rfl rfl rfl rfl) (hr.mono (by decide)) T.b_Galley_block_at (db_var 0 (pv 0) (.inr (.inr (by rfl)))) (dm_val (de_var 2 (pv 2) rfl) dm_nil))) (db_of de_int) (fun _ _ => rfl))) (nomark _))
  (ds_one (ds_ret gok0 rfl de_int))
  ds_nil)
  (ds_one (ds_ret gok0 rfl (de_bltn (call_max2 rfl) cs_ints2 (by rfl) T.n_max (by decide +kernel) (dm_bor (db_of de_int) (dm_bor (db_of (de_op op_sub os_sub (db_of (de_fld T.cm_Book T.cl_Book T.na_Book_room (db_var 1 (pv 1) (.inl (by rfl))))) (db_of (de_callV (ok_line_width T) (takes_of rfl rfl rfl rfl) (hr.mono (by decide)) (by rfl) T.g_line_width T.F_line_width.kp T.b_line_width (dm_bor (db_var 0 (pv 0) (.inr (.inr (by rfl)))) (dm_val (de_var 2 (pv 2) rfl) (dm_val (de_var 3 (pv 3) rfl) dm_nil))))))) dm_nil))))))
theorem ok_line_cost (T : Txt K mg) : FnOk P w K mg base (L2.CX P w) 8 T.f_line_cost T.fd_line_cost ["galley", "book", "start", "end"] (spD K T.cm [true, false, false, false] false F_line_cost)   := dok (G' := []) (k := 7) T.F_line_cost sc_line_cost rfl (by decide) fun cdv A outer s H E hr =>
  (ds_cons (ds_set 4 gok0 sc_line_cost.nd rfl (by first | exact Or.inl rfl | exact Or.inr rfl) (de_callV (ok_line_gap T) (takes_of rfl rfl rfl rfl) (hr.mono (by decide)) (by rfl) T.g_line_gap T.F_line_gap.kp T.b_line_gap (dm_bor (db_var 0 (pv 0) (.inr (.inr (by rfl)))) (dm_val (de_var 1 (pv 1) rfl) (dm_val (de_var 2 (pv 2) rfl) (dm_val (de_var 3 (pv 3) rfl) dm_nil))))))
  (ds_cons (ds_set 5 gok0 sc_line_cost.nd rfl (by first | exact Or.inl rfl | exact Or.inr rfl) (de_bltn (call_max2 rfl) cs_ints2 (by rfl) T.n_max (by decide +kernel) (dm_bor (db_of de_int) (dm_bor (db_of (de_op op_sub os_sub (db_of (de_callV (ok_line_width T) (takes_of rfl rfl rfl rfl) (hr.mono (by decide)) (by rfl) T.g_line_width T.F_line_width.kp T.b_line_width (dm_bor (db_var 0 (pv 0) (.inr (.inr (by rfl)))) (dm_val (de_var 2 (pv 2) rfl) (dm_val (de_var 3 (pv 3) rfl) dm_nil))))) (db_of (de_fld T.cm_Book T.cl_Book T.na_Book_room (db_var 1 (pv 1) (.inl (by rfl))))))) dm_nil))))
  (ds_cons (ds_set 6 gok0 sc_line_cost.nd rfl (by first | exact Or.inl rfl | exact Or.inr rfl) (de_op or_add os_add (db_of (de_op or_mulX os_mulX (db_var 4 (pv 4) (.inl (by rfl))) (db_var 4 (pv 4) (.inl (by rfl))))) (db_of (de_op or_mulX os_mulX (db_of (de_fld T.cm_Book T.cl_Book T.na_Book_over (db_var 1 (pv 1) (.inl (by rfl))))) (db_var 5 (pv 5) (.inl (by rfl)))))))
  (ds_cons (ds_if gok0 (dt_cmp (or_eq hr.units) os_eq (db_of (de_ix (db_of (de_ix (db_of (de_ix (db_of (de_prop (rm := false) T.cm_Galley T.cl_Galley T.pr_Galley_pieces (ok_Galley_pieces T) (hr.mono (by decide)) T.b_Galley_pieces (db_var 0 (pv 0) (.inr (.inr (by rfl)))))) (db_of (de_op op_sub os_sub (db_var 3 (pv 3) (.inl (by rfl))) (db_of de_int))) (fun _ _ => rfl))) (db_of de_int) (fun _ _ => rfl))) (db_of de_int) (fun _ _ => rfl))) (db_of (de_strL (by decide +kernel))) (nomark _))
  (ds_one (ds_set 6 gok0 sc_line_cost.nd rfl (by first | exact Or.inl rfl | exact Or.inr rfl) (de_op or_add os_add (db_var 6 (pv 6) (.inl (by rfl))) (db_of (de_fld T.cm_Book T.cl_Book T.na_Book_joint (db_var 1 (pv 1) (.inl (by rfl))))))))
  ds_nil)
  (ds_one (ds_ret gok0 rfl (de_var 6 (pv 6) rfl)))))))
theorem ok_line_ends (T : Txt K mg) : FnOk P w K mg base (L2.CX P w) 7 T.f_line_ends T.fd_line_ends ["galley", "book", "start"] (spD K T.cm [true, false, false] true F_line_ends)   := dok (G' := []) (k := 6) T.F_line_ends sc_line_ends rfl (by decide) fun cdv A outer s H E hr =>
  (ds_cons (ds_setO 3 gok0 (show 3 < 5 by decide) sc_line_ends.nd rfl (by first | exact Or.inl rfl | exact Or.inr rfl) (de_lst (da_cons (de_op or_add os_add (db_var 2 (pv 2) (.inl (by rfl))) (db_of de_int)) da_nil)))
  (ds_cons (ds_for gok0 (passes_of rfl) rfl (di_rng2 T.n_range (by rfl) (da_cons (de_op or_add os_add (db_var 2 (pv 2) (.inl (by rfl))) (db_of de_int)) (da_cons (de_op or_add os_add (db_of (de_ix (db_of (de_meth (rm := false) T.cm_Galley T.cl_Galley T.m_Galley_block_at (ok_Galley_block_at T) (takes_of rfl rfl rfl rfl) (hr.mono (by decide)) T.b_Galley_block_at (db_var 0 (pv 0) (.inr (.inr (by rfl)))) (dm_val (de_var 2 (pv 2) rfl) dm_nil))) (db_of de_int) (fun _ _ => rfl))) (db_of de_int)) da_nil))) (dg_name 4 sc_line_ends.nd rfl (by first | exact Or.inl rfl | exact Or.inr rfl))
  (ds_cons (ds_if gok0 (dt_cmp or_gt os_ord (db_of (de_callV (ok_bare_width T) (takes_of rfl rfl rfl rfl) (hr.mono (by decide)) (by rfl) T.g_bare_width T.F_bare_width.kp T.b_bare_width (dm_bor (db_var 0 (pv 0) (.inr (.inr (by rfl)))) (dm_val (de_var 2 (pv 2) rfl) (dm_val (de_var 4 (pv 4) rfl) dm_nil))))) (db_of (de_fld T.cm_Book T.cl_Book T.na_Book_room (db_var 1 (pv 1) (.inl (by rfl))))) (nomark _))
  (ds_one ds_break)
  ds_nil)
  (ds_one (ds_if gok0 (dt_cmp or_le os_ord (db_of (de_callV (ok_line_width T) (takes_of rfl rfl rfl rfl) (hr.mono (by decide)) (by rfl) T.g_line_width T.F_line_width.kp T.b_line_width (dm_bor (db_var 0 (pv 0) (.inr (.inr (by rfl)))) (dm_val (de_var 2 (pv 2) rfl) (dm_val (de_var 4 (pv 4) rfl) dm_nil))))) (db_of (de_fld T.cm_Book T.cl_Book T.na_Book_room (db_var 1 (pv 1) (.inl (by rfl))))) (nomark _))
  (ds_one (ds_app 3 gok0 rfl (pv 3) (de_var 4 (pv 4) rfl)))
  ds_nil))))
  (ds_one (ds_retI 3 rfl rfl (pv 3)))))
theorem ok_line_need (T : Txt K mg) : FnOk P w K mg base (L2.CX P w) 5 T.f_line_need T.fd_line_need ["galley", "start", "end"] (spD K T.cm [true, false, false] false F_line_need)   := dok (G' := []) (k := 4) T.F_line_need sc_line_need rfl (by decide) fun cdv A outer s H E hr =>
  (ds_cons (ds_set 3 gok0 sc_line_need.nd rfl (by first | exact Or.inl rfl | exact Or.inr rfl) (de_meth (rm := false) T.cm_Galley T.cl_Galley T.m_Galley_block_at (ok_Galley_block_at T) (takes_of rfl rfl rfl rfl) (hr.mono (by decide)) T.b_Galley_block_at (db_var 0 (pv 0) (.inr (.inr (by rfl)))) (dm_val (de_var 1 (pv 1) rfl) dm_nil)))
  (ds_cons (ds_set 4 gok0 sc_line_need.nd rfl (by first | exact Or.inl rfl | exact Or.inr rfl) (de_ix (db_own (de_type (call_listO T.m_Galley___iter__ (ok_it_Galley T) T.m_Galley___len__ (ok_ln_Galley T) T.b_Galley_len (hr.mono (by decide)) rfl) (cs_listO T.cm_Galley) (by rfl) T.n_list (by decide +kernel) (dm_bor (db_var 0 (pv 0) (.inr (.inr (by rfl)))) dm_nil))) (db_of (de_ix (db_var 3 (pv 3) (.inl (by rfl))) (db_of de_int) (fun _ _ => rfl))) (fun _ _ => rfl)))
  (ds_cons (ds_set 5 gok0 sc_line_need.nd rfl (by first | exact Or.inl rfl | exact Or.inr rfl) (de_ix (db_var 4 (pv 4) (.inl (by rfl))) (db_of de_int) (fun _ _ => rfl)))
  (ds_cons (ds_if gok0 (dt_cmp (or_eq hr.units) os_eq (db_var 1 (pv 1) (.inl (by rfl))) (db_of (de_ix (db_var 3 (pv 3) (.inl (by rfl))) (db_of de_int) (fun _ _ => rfl))) (nomark _))
  (ds_one (ds_set 5 gok0 sc_line_need.nd rfl (by first | exact Or.inl rfl | exact Or.inr rfl) (de_op or_add os_add (db_var 5 (pv 5) (.inl (by rfl))) (db_of (de_ix (db_var 4 (pv 4) (.inl (by rfl))) (db_of de_int) (fun _ _ => rfl))))))
  ds_nil)
  (ds_cons (ds_for gok0 (passes_of rfl) rfl (di_list (de_sl (db_of (de_prop (rm := false) T.cm_Galley T.cl_Galley T.pr_Galley_pieces (ok_Galley_pieces T) (hr.mono (by decide)) T.b_Galley_pieces (db_var 0 (pv 0) (.inr (.inr (by rfl)))))) (dp_some (de_var 1 (pv 1) rfl)) (dp_some (de_var 2 (pv 2) rfl)))) (dg_name 6 sc_line_need.nd rfl (by first | exact Or.inl rfl | exact Or.inr rfl))
  (ds_one (ds_set 5 gok0 sc_line_need.nd rfl (by first | exact Or.inl rfl | exact Or.inr rfl) (de_op or_add os_add (db_var 5 (pv 5) (.inl (by rfl))) (db_of (de_bltn (cr_sumT rfl) cs_sumT (by rfl) T.n_sum (by decide +kernel) (dm_bor (db_of (de_ix (db_var 6 (pv 6) (.inl (by rfl))) (db_of de_int) (fun _ _ => rfl))) dm_nil)))))))
  (ds_one (ds_ret gok0 rfl (de_var 5 (pv 5) rfl))))))))
theorem ok_turn_cost (T : Txt K mg) : FnOk P w K mg base (L2.CX P w) 5 T.f_turn_cost T.fd_turn_cost ["galley", "book", "state", "end"] (spD K T.cm [true, false, false, false] false F_turn_cost)   := dok (G' := []) (k := 4) T.F_turn_cost sc_turn_cost rfl (by decide) fun cdv A outer s H E hr =>
  (ds_cons (ds_asg gok0 (de_var 2 (pv 2) rfl) (dg_tup rfl (dg_cons (dg_name 4 sc_turn_cost.nd rfl (by first | exact Or.inl rfl | exact Or.inr rfl)) (dg_cons (dg_name 5 sc_turn_cost.nd rfl (by first | exact Or.inl rfl | exact Or.inr rfl)) (dg_cons (dg_name 6 sc_turn_cost.nd rfl (by first | exact Or.inl rfl | exact Or.inr rfl)) (dg_cons (dg_name 7 sc_turn_cost.nd rfl (by first | exact Or.inl rfl | exact Or.inr rfl)) dg_nil))))))
  (ds_cons (ds_asg gok0 (de_meth (rm := false) T.cm_Galley T.cl_Galley T.m_Galley_block_at (ok_Galley_block_at T) (takes_of rfl rfl rfl rfl) (hr.mono (by decide)) T.b_Galley_block_at (db_var 0 (pv 0) (.inr (.inr (by rfl)))) (dm_val (de_var 4 (pv 4) rfl) dm_nil)) (dg_tup rfl (dg_cons (dg_name 8 sc_turn_cost.nd rfl (by first | exact Or.inl rfl | exact Or.inr rfl)) (dg_cons (dg_name 9 sc_turn_cost.nd rfl (by first | exact Or.inl rfl | exact Or.inr rfl)) (dg_cons (dg_name 10 sc_turn_cost.nd rfl (by first | exact Or.inl rfl | exact Or.inr rfl)) dg_nil)))))
  (ds_cons (ds_set 11 gok0 sc_turn_cost.nd rfl (by first | exact Or.inl rfl | exact Or.inr rfl) (de_bltn (call_max2 rfl) cs_ints2 (by rfl) T.n_max (by decide +kernel) (dm_bor (db_of de_int) (dm_bor (db_of (de_op op_sub os_sub (db_of (de_fld T.cm_Book T.cl_Book T.na_Book_height (db_var 1 (pv 1) (.inl (by rfl))))) (db_var 5 (pv 5) (.inl (by rfl))))) dm_nil))))
  (ds_cons (ds_set 12 gok0 sc_turn_cost.nd rfl (by first | exact Or.inl rfl | exact Or.inr rfl) (de_op or_mulX os_mulX (db_var 11 (pv 11) (.inl (by rfl))) (db_var 11 (pv 11) (.inl (by rfl)))))
  (ds_cons (ds_if gok0 (PW.pt (dw_and (dt_cmp (or_eq hr.units) os_eq (db_var 4 (pv 4) (.inl (by rfl))) (db_var 9 (pv 9) (.inl (by rfl))) (nomark _)) (dw_and1 (dt_tru (db_of (de_ix (db_of (de_ix (db_own (de_type (call_listO T.m_Galley___iter__ (ok_it_Galley T) T.m_Galley___len__ (ok_ln_Galley T) T.b_Galley_len (hr.mono (by decide)) rfl) (cs_listO T.cm_Galley) (by rfl) T.n_list (by decide +kernel) (dm_bor (db_var 0 (pv 0) (.inr (.inr (by rfl)))) dm_nil))) (db_of (de_op op_sub os_sub (db_var 8 (pv 8) (.inl (by rfl))) (db_of de_int))) (fun _ _ => rfl))) (db_of de_int) (fun _ _ => rfl))) (by intro _; rfl)))))
  (ds_one (ds_set 12 gok0 sc_turn_cost.nd rfl (by first | exact Or.inl rfl | exact Or.inr rfl) (de_op or_add os_add (db_var 12 (pv 12) (.inl (by rfl))) (db_of (de_fld T.cm_Book T.cl_Book T.na_Book_keep (db_var 1 (pv 1) (.inl (by rfl))))))))
  ds_nil)
  (ds_cons (ds_if gok0 (dt_tru (db_var 7 (pv 7) (.inl (by rfl))) (by intro _; rfl))
  (ds_one (ds_set 12 gok0 sc_turn_cost.nd rfl (by first | exact Or.inl rfl | exact Or.inr rfl) (de_op or_add os_add (db_var 12 (pv 12) (.inl (by rfl))) (db_of (de_fld T.cm_Book T.cl_Book T.na_Book_orphan (db_var 1 (pv 1) (.inl (by rfl))))))))
  ds_nil)
  (ds_cons (ds_if gok0 (PW.pt (dw_and (dt_cmp or_lt os_ord (db_var 9 (pv 9) (.inl (by rfl))) (db_var 4 (pv 4) (.inl (by rfl))) (nomark _)) (dw_and1 (dt_cmp (or_eq hr.units) os_eq (db_var 3 (pv 3) (.inl (by rfl))) (db_var 10 (pv 10) (.inl (by rfl))) (nomark _)))))
  (ds_one (ds_set 12 gok0 sc_turn_cost.nd rfl (by first | exact Or.inl rfl | exact Or.inr rfl) (de_op or_add os_add (db_var 12 (pv 12) (.inl (by rfl))) (db_of (de_fld T.cm_Book T.cl_Book T.na_Book_widow (db_var 1 (pv 1) (.inl (by rfl))))))))
  ds_nil)
  (ds_one (ds_ret gok0 rfl (de_var 12 (pv 12) rfl))))))))))
theorem ok_called_ahead (T : Txt K mg) : FnOk P w K mg base (L2.CX P w) 3 T.f_called_ahead T.fd_called_ahead ["galley", "done"] (spD K T.cm [true, false] false F_called_ahead)   := dok (G' := []) (k := 2) T.F_called_ahead sc_called_ahead rfl (by decide) fun cdv A outer s H E hr =>
  (ds_one (ds_ret gok0 rfl (de_bltn (cr_sum rfl) cs_sum (by rfl) T.n_sum (by decide +kernel) (dm_bor (db_own (de_lc (own := [("piece", 2)]) rfl sc_called_ahead.nd (di_list (de_sl (db_of (de_prop (rm := false) T.cm_Galley T.cl_Galley T.pr_Galley_pieces (ok_Galley_pieces T) (hr.mono (by decide)) T.b_Galley_pieces (db_var 0 (pv 0) (.inr (.inr (by rfl)))))) dp_none (dp_some (de_var 1 (pv 1) rfl)))) (blkOk_by (own := [("piece", 2)]) (N := ["galley", "done", "piece"]) (sc := defScope s_called_ahead) (by decide +kernel)) (fun _ _ _ _ _ => (dg_name 2 sc_called_ahead.nd rfl (by first | exact Or.inl rfl | exact Or.inr rfl))) (fun _ _ _ _ _ => dt_nil) (fun _ _ _ _ _ => (de_bltn call_len cs_len (by rfl) T.n_len (by decide +kernel) (dm_bor (db_of (de_ix (db_var 2 (pv 2) (.inl (by rfl))) (db_of de_int) (fun _ _ => rfl))) dm_nil))))) dm_nil))))
theorem ok_Galley_figures (T : Txt K mg) : FnOk P w K mg base (L2.CX P w) 1 T.f_Galley_figures T.fd_Galley_figures ["self"] (spD K T.cm [true] false F_Galley_figures)   := dok (G' := []) (k := 0) T.F_Galley_figures sc_Galley_figures rfl (by decide) fun cdv A outer s H E hr =>
  (ds_one (ds_ret gok0 rfl (de_pub (de_type call_list_of cs_list (by rfl) T.n_list (by decide +kernel) (dm_bor (db_of (de_fld T.cm_Galley T.cl_Galley T.na_Galley_all_figures (db_var 0 (pv 0) (.inr (.inr (by rfl)))))) dm_nil)))))
theorem ok_moves_to (T : Txt K mg) : FnOk P w K mg base (L2.CX P w) 9 T.f_moves_to T.fd_moves_to ["galley", "book", "state", "end"] (spD K T.cm [true, false, false, false] true F_moves_to)   := dok (G' := []) (k := 8) T.F_moves_to sc_moves_to rfl (by decide) fun cdv A outer s H E hr =>
  (ds_cons (ds_asg gok0 (de_var 2 (pv 2) rfl) (dg_tup rfl (dg_cons (dg_name 4 sc_moves_to.nd rfl (by first | exact Or.inl rfl | exact Or.inr rfl)) (dg_cons (dg_name 5 sc_moves_to.nd rfl (by first | exact Or.inl rfl | exact Or.inr rfl)) (dg_cons (dg_name 6 sc_moves_to.nd rfl (by first | exact Or.inl rfl | exact Or.inr rfl)) (dg_cons (dg_name 7 sc_moves_to.nd rfl (by first | exact Or.inl rfl | exact Or.inr rfl)) dg_nil))))))
  (ds_cons (ds_set 8 gok0 sc_moves_to.nd rfl (by first | exact Or.inl rfl | exact Or.inr rfl) (de_meth (rm := false) T.cm_Galley T.cl_Galley T.m_Galley_block_at (ok_Galley_block_at T) (takes_of rfl rfl rfl rfl) (hr.mono (by decide)) T.b_Galley_block_at (db_var 0 (pv 0) (.inr (.inr (by rfl)))) (dm_val (de_var 4 (pv 4) rfl) dm_nil)))
  (ds_cons (ds_set 9 gok0 sc_moves_to.nd rfl (by first | exact Or.inl rfl | exact Or.inr rfl) (de_callV (ok_line_need T) (takes_of rfl rfl rfl rfl) (hr.mono (by decide)) (by rfl) T.g_line_need T.F_line_need.kp T.b_line_need (dm_bor (db_var 0 (pv 0) (.inr (.inr (by rfl)))) (dm_val (de_var 4 (pv 4) rfl) (dm_val (de_var 3 (pv 3) rfl) dm_nil)))))
  (ds_cons (ds_set 10 gok0 sc_moves_to.nd rfl (by first | exact Or.inl rfl | exact Or.inr rfl) (de_callV (ok_line_cost T) (takes_of rfl rfl rfl rfl) (hr.mono (by decide)) (by rfl) T.g_line_cost T.F_line_cost.kp T.b_line_cost (dm_bor (db_var 0 (pv 0) (.inr (.inr (by rfl)))) (dm_val (de_var 1 (pv 1) rfl) (dm_val (de_var 4 (pv 4) rfl) (dm_val (de_var 3 (pv 3) rfl) dm_nil))))))
  (ds_cons (ds_set 11 gok0 sc_moves_to.nd rfl (by first | exact Or.inl rfl | exact Or.inr rfl) (de_and (de_cmp (or_eq hr.units) os_eq (db_var 4 (pv 4) (.inl (by rfl))) (db_of (de_ix (db_var 8 (pv 8) (.inl (by rfl))) (db_of de_int) (fun _ _ => rfl))) (nomark _)) (de_one (de_cmp or_lt os_ord (db_var 3 (pv 3) (.inl (by rfl))) (db_of (de_ix (db_var 8 (pv 8) (.inl (by rfl))) (db_of de_int) (fun _ _ => rfl))) (nomark _)))))
  (ds_cons (ds_if gok0 (dt_cmp (or_eq hr.units) os_eq (db_var 4 (pv 4) (.inl (by rfl))) (db_of de_int) (nomark _))
  (ds_one (ds_retO gok0 rfl (de_lst (da_cons (de_tup (da_cons (de_tup (da_cons (de_var 3 (pv 3) rfl) (da_cons de_int da_nil))) (da_cons (de_var 10 (pv 10) rfl) (da_cons (de_tup (da_cons (de_var 3 (pv 3) rfl) (da_cons (de_var 9 (pv 9) rfl) (da_cons de_int (da_cons (de_var 11 (pv 11) rfl) da_nil))))) da_nil)))) da_nil))))
  ds_nil)
  (ds_cons (ds_setO 12 gok0 (show 12 < 17 by decide) sc_moves_to.nd rfl (by first | exact Or.inl rfl | exact Or.inr rfl) (de_lst da_nil))
  (ds_cons (ds_if gok0 (dt_cmp or_le os_ord (db_of (de_op or_add os_add (db_var 5 (pv 5) (.inl (by rfl))) (db_var 9 (pv 9) (.inl (by rfl))))) (db_of (de_fld T.cm_Book T.cl_Book T.na_Book_height (db_var 1 (pv 1) (.inl (by rfl))))) (nomark _))
  (ds_one (ds_app 12 gok0 rfl (pv 12) (de_tup (da_cons (de_tup (da_cons (de_var 3 (pv 3) rfl) (da_cons de_non da_nil))) (da_cons (de_var 10 (pv 10) rfl) (da_cons (de_tup (da_cons (de_var 3 (pv 3) rfl) (da_cons (de_op or_add os_add (db_var 5 (pv 5) (.inl (by rfl))) (db_var 9 (pv 9) (.inl (by rfl)))) (da_cons (de_var 6 (pv 6) rfl) (da_cons (de_var 11 (pv 11) rfl) da_nil))))) da_nil))))))
  ds_nil)
  (ds_cons (ds_set 10 gok0 sc_moves_to.nd rfl (by first | exact Or.inl rfl | exact Or.inr rfl) (de_op or_add os_add (db_var 10 (pv 10) (.inl (by rfl))) (db_of (de_callV (ok_turn_cost T) (takes_of rfl rfl rfl rfl) (hr.mono (by decide)) (by rfl) T.g_turn_cost T.F_turn_cost.kp T.b_turn_cost (dm_bor (db_var 0 (pv 0) (.inr (.inr (by rfl)))) (dm_val (de_var 1 (pv 1) rfl) (dm_val (de_var 2 (pv 2) rfl) (dm_val (de_var 3 (pv 3) rfl) dm_nil))))))))
  (ds_cons (ds_set 13 gok0 sc_moves_to.nd rfl (by first | exact Or.inl rfl | exact Or.inr rfl) (de_op op_sub os_sub (db_of (de_callV (ok_called_ahead T) (takes_of rfl rfl rfl rfl) (hr.mono (by decide)) (by rfl) T.g_called_ahead T.F_called_ahead.kp T.b_called_ahead (dm_bor (db_var 0 (pv 0) (.inr (.inr (by rfl)))) (dm_val (de_var 4 (pv 4) rfl) dm_nil)))) (db_var 6 (pv 6) (.inl (by rfl)))))
  (ds_cons (ds_for gok0 (passes_of rfl) rfl (di_rng1 T.n_range (by rfl) (da_cons (de_op or_add os_add (db_var 13 (pv 13) (.inl (by rfl))) (db_of de_int)) da_nil)) (dg_name 14 sc_moves_to.nd rfl (by first | exact Or.inl rfl | exact Or.inr rfl))
  (ds_cons (ds_set 15 gok0 sc_moves_to.nd rfl (by first | exact Or.inl rfl | exact Or.inr rfl) (de_bltn (cr_sum rfl) cs_sum (by rfl) T.n_sum (by decide +kernel) (dm_bor (db_of (de_sl (db_of (de_prop (rm := false) T.cm_Galley T.cl_Galley T.pr_Galley_figures (ok_Galley_figures T) (hr.mono (by decide)) T.b_Galley_figures (db_var 0 (pv 0) (.inr (.inr (by rfl)))))) (dp_some (de_var 6 (pv 6) rfl)) (dp_some (de_op or_add os_add (db_var 6 (pv 6) (.inl (by rfl))) (db_var 14 (pv 14) (.inl (by rfl))))))) dm_nil)))
  (ds_one (ds_if gok0 (PW.pt (dw_or (dt_cmp (or_eq hr.units) os_eq (db_var 14 (pv 14) (.inl (by rfl))) (db_of de_int) (nomark _)) (dw_or1 (dt_cmp or_le os_ord (db_of (de_op or_add os_add (db_var 15 (pv 15) (.inl (by rfl))) (db_var 9 (pv 9) (.inl (by rfl))))) (db_of (de_fld T.cm_Book T.cl_Book T.na_Book_height (db_var 1 (pv 1) (.inl (by rfl))))) (nomark _)))))
  (ds_cons (ds_set 16 gok0 sc_moves_to.nd rfl (by first | exact Or.inl rfl | exact Or.inr rfl) (de_op or_mulX os_mulX (db_of (de_fld T.cm_Book T.cl_Book T.na_Book_wait (db_var 1 (pv 1) (.inl (by rfl))))) (db_of (de_op op_sub os_sub (db_var 13 (pv 13) (.inl (by rfl))) (db_var 14 (pv 14) (.inl (by rfl)))))))
  (ds_one (ds_app 12 gok0 rfl (pv 12) (de_tup (da_cons (de_tup (da_cons (de_var 3 (pv 3) rfl) (da_cons (de_var 14 (pv 14) rfl) da_nil))) (da_cons (de_op or_add os_add (db_var 10 (pv 10) (.inl (by rfl))) (db_var 16 (pv 16) (.inl (by rfl)))) (da_cons (de_tup (da_cons (de_var 3 (pv 3) rfl) (da_cons (de_op or_add os_add (db_var 15 (pv 15) (.inl (by rfl))) (db_var 9 (pv 9) (.inl (by rfl)))) (da_cons (de_op or_add os_add (db_var 6 (pv 6) (.inl (by rfl))) (db_var 14 (pv 14) (.inl (by rfl)))) (da_cons (de_var 11 (pv 11) rfl) da_nil))))) da_nil)))))))
  ds_nil))))
  (ds_one (ds_retI 12 rfl rfl (pv 12))))))))))))))
theorem ok_Galley_len (T : Txt K mg) : FnOk P w K mg base (L2.CX P w) 1 T.f_Galley_len T.fd_Galley_len ["self"] (spD K T.cm [true] false F_Galley_len)   := dok (G' := []) (k := 0) T.F_Galley_len sc_Galley_len rfl (by decide) fun cdv A outer s H E hr =>
  (ds_one (ds_ret gok0 rfl (de_bltn call_len cs_len (by rfl) T.n_len (by decide +kernel) (dm_bor (db_of (de_fld T.cm_Galley T.cl_Galley T.na_Galley_all_pieces (db_var 0 (pv 0) (.inr (.inr (by rfl)))))) dm_nil))))
theorem ok_moves_of (T : Txt K mg) : FnOk P w K mg base (L2.CX P w) 10 T.f_moves_of T.fd_moves_of ["galley", "book", "state"] (spD K T.cm [true, false, false] true F_moves_of)   := dok (G' := []) (k := 9) T.F_moves_of sc_moves_of rfl (by decide) fun cdv A outer s H E hr =>
  (ds_cons (ds_set 3 gok0 sc_moves_of.nd rfl (by first | exact Or.inl rfl | exact Or.inr rfl) (de_ix (db_var 2 (pv 2) (.inl (by rfl))) (db_of de_int) (fun _ _ => rfl)))
  (ds_cons (ds_if gok0 (dt_cmp (or_eq hr.units) os_eq (db_var 3 (pv 3) (.inl (by rfl))) (db_of (de_bltn (call_lenO T.m_Galley___len__ (ok_Galley_len T) (hr.mono (by decide)) T.b_Galley_len) (cs_lenO T.cm_Galley) (by rfl) T.n_len (by decide +kernel) (dm_bor (db_var 0 (pv 0) (.inr (.inr (by rfl)))) dm_nil))) (nomark _))
  (ds_one (ds_retO gok0 rfl (de_lst da_nil)))
  ds_nil)
  (ds_cons (ds_setO 4 gok0 (show 4 < 6 by decide) sc_moves_of.nd rfl (by first | exact Or.inl rfl | exact Or.inr rfl) (de_lst da_nil))
  (ds_cons (ds_for gok0 (passes_of rfl) rfl (di_list (de_pub (de_callO (ok_line_ends T) (takes_of rfl rfl rfl rfl) (hr.mono (by decide)) (by rfl) T.g_line_ends T.F_line_ends.kp T.b_line_ends (dm_bor (db_var 0 (pv 0) (.inr (.inr (by rfl)))) (dm_val (de_var 1 (pv 1) rfl) (dm_val (de_var 3 (pv 3) rfl) dm_nil)))))) (dg_name 5 sc_moves_of.nd rfl (by first | exact Or.inl rfl | exact Or.inr rfl))
  (ds_one (ds_ext 4 gok0 rfl (pv 4) (de_pub (de_callO (ok_moves_to T) (takes_of rfl rfl rfl rfl) (hr.mono (by decide)) (by rfl) T.g_moves_to T.F_moves_to.kp T.b_moves_to (dm_bor (db_var 0 (pv 0) (.inr (.inr (by rfl)))) (dm_val (de_var 1 (pv 1) rfl) (dm_val (de_var 2 (pv 2) rfl) (dm_val (de_var 5 (pv 5) rfl) dm_nil)))))))))
  (ds_one (ds_retI 4 rfl rfl (pv 4)))))))
theorem ok_made_moves (T : Txt K mg) : FnOk P w K mg base (L2.CX P w) 11 T.f_made_moves T.fd_made_moves ["galley", "book", "laying"] (spD K T.cm [true, false, false] true F_made_moves)   := dok (G' := []) (k := 10) T.F_made_moves sc_made_moves rfl (by decide) fun cdv A outer s H E hr =>
  (ds_cons (ds_setO 3 gok0 (show 3 < 8 by decide) sc_made_moves.nd rfl (by first | exact Or.inl rfl | exact Or.inr rfl) (de_lst da_nil))
  (ds_cons (ds_set 4 gok0 sc_made_moves.nd rfl (by first | exact Or.inl rfl | exact Or.inr rfl) (de_c (v := .ref T.k_START) (pe_glob (by rfl) T.c_START rfl) fun S => T.kc_START S))
  (ds_cons (ds_for gok0 (passes_of rfl) rfl (di_enumT T.n_enumerate (by rfl) (de_var 2 (pv 2) rfl)) (dg_tup rfl (dg_cons (dg_name 5 sc_made_moves.nd rfl (by first | exact Or.inl rfl | exact Or.inr rfl)) (dg_cons (dg_name 6 sc_made_moves.nd rfl (by first | exact Or.inl rfl | exact Or.inr rfl)) dg_nil)))
  (ds_cons (ds_forE gok0 (passes_of rfl) rfl (di_list (de_pub (de_callO (ok_moves_of T) (takes_of rfl rfl rfl rfl) (hr.mono (by decide)) (by rfl) T.g_moves_of T.F_moves_of.kp T.b_moves_of (dm_bor (db_var 0 (pv 0) (.inr (.inr (by rfl)))) (dm_val (de_var 1 (pv 1) rfl) (dm_val (de_var 4 (pv 4) rfl) dm_nil)))))) (dg_name 7 sc_made_moves.nd rfl (by first | exact Or.inl rfl | exact Or.inr rfl))
  (ds_one (ds_if gok0 (dt_cmp (or_eq hr.units) os_eq (db_of (de_ix (db_var 7 (pv 7) (.inl (by rfl))) (db_of de_int) (fun _ _ => rfl))) (db_var 6 (pv 6) (.inl (by rfl))) (nomark _))
  (ds_one ds_break)
  ds_nil))
  (ds_one (ds_raise1 gok0 T.cm_BadLaying rfl (takes_of rfl rfl rfl rfl) T.o_BadLaying T.i_BadLaying T.ti_BadLaying T.no_BadLaying_step (ox_BadLaying T) (hr.mono (by decide)) T.b_BadLaying (by rfl) T.g_BadLaying (da_cons (de_var 5 (pv 5) rfl) da_nil))))
  (ds_cons (ds_app 3 gok0 rfl (pv 3) (de_var 7 (pv 7) rfl))
  (ds_one (ds_set 4 gok0 sc_made_moves.nd rfl (by first | exact Or.inl rfl | exact Or.inr rfl) (de_ix (db_var 7 (pv 7) (.inl (by rfl))) (db_of de_int) (fun _ _ => rfl)))))))
  (ds_cons (ds_if gok0 (dt_cmp or_lt os_ord (db_of (de_ix (db_var 4 (pv 4) (.inl (by rfl))) (db_of de_int) (fun _ _ => rfl))) (db_of (de_bltn (call_lenO T.m_Galley___len__ (ok_Galley_len T) (hr.mono (by decide)) T.b_Galley_len) (cs_lenO T.cm_Galley) (by rfl) T.n_len (by decide +kernel) (dm_bor (db_var 0 (pv 0) (.inr (.inr (by rfl)))) dm_nil))) (nomark _))
  (ds_one (ds_raise1 gok0 T.cm_BadLaying rfl (takes_of rfl rfl rfl rfl) T.o_BadLaying T.i_BadLaying T.ti_BadLaying T.no_BadLaying_step (ox_BadLaying T) (hr.mono (by decide)) T.b_BadLaying (by rfl) T.g_BadLaying (da_cons (de_bltn call_len cs_len (by rfl) T.n_len (by decide +kernel) (dm_bor (db_var 2 (pv 2) (.inl (by rfl))) dm_nil)) da_nil)))
  ds_nil)
  (ds_one (ds_retI 3 rfl rfl (pv 3)))))))
theorem ok_states_of (T : Txt K mg) : FnOk P w K mg base (L2.CX P w) 12 T.f_states_of T.fd_states_of ["galley", "book", "laying"] (spD K T.cm [true, false, false] true F_states_of)   := dok (G' := []) (k := 11) T.F_states_of sc_states_of rfl (by decide) fun cdv A outer s H E hr =>
  (ds_one (ds_retO gok0 rfl (de_op op_cat os_addL (db_own (de_lst (da_cons (de_c (v := .ref T.k_START) (pe_glob (by rfl) T.c_START rfl) fun S => T.kc_START S) da_nil))) (db_own (de_lc (own := [("move", 3)]) rfl sc_states_of.nd (di_list (de_pub (de_callO (ok_made_moves T) (takes_of rfl rfl rfl rfl) (hr.mono (by decide)) (by rfl) T.g_made_moves T.F_made_moves.kp T.b_made_moves (dm_bor (db_var 0 (pv 0) (.inr (.inr (by rfl)))) (dm_val (de_var 1 (pv 1) rfl) (dm_val (de_var 2 (pv 2) rfl) dm_nil)))))) (blkOk_by (own := [("move", 3)]) (N := ["galley", "book", "laying", "move"]) (sc := defScope s_states_of) (by decide +kernel)) (fun _ _ _ _ _ => (dg_name 3 sc_states_of.nd rfl (by first | exact Or.inl rfl | exact Or.inr rfl))) (fun _ _ _ _ _ => dt_nil) (fun _ _ _ _ _ => (de_ix (db_var 3 (pv 3) (.inl (by rfl))) (db_of de_int) (fun _ _ => rfl))))))))
theorem ok_is_forbidden (T : Txt K mg) : FnOk P w K mg base (L2.CX P w) 8 T.f_is_forbidden T.fd_is_forbidden ["galley", "book", "promise", "state", "step", "after"] (spD K T.cm [true, false, false, false, false, false] false F_is_forbidden)   := dok (G' := []) (k := 7) T.F_is_forbidden sc_is_forbidden rfl (by decide) fun cdv A outer s H E hr =>
  (ds_cons (ds_asg gok0 (de_meth (rm := false) T.cm_Galley T.cl_Galley T.m_Galley_block_at (ok_Galley_block_at T) (takes_of rfl rfl rfl rfl) (hr.mono (by decide)) T.b_Galley_block_at (db_var 0 (pv 0) (.inr (.inr (by rfl)))) (dm_val (de_ix (db_var 3 (pv 3) (.inl (by rfl))) (db_of de_int) (fun _ _ => rfl)) dm_nil)) (dg_tup rfl (dg_cons (dg_name 6 sc_is_forbidden.nd rfl (by first | exact Or.inl rfl | exact Or.inr rfl)) (dg_cons (dg_name 7 sc_is_forbidden.nd rfl (by first | exact Or.inl rfl | exact Or.inr rfl)) (dg_cons (dg_name 8 sc_is_forbidden.nd rfl (by first | exact Or.inl rfl | exact Or.inr rfl)) dg_nil)))))
  (ds_cons (ds_if gok0 (dt_cmp (or_eq hr.units) os_eq (db_of (de_ix (db_var 2 (pv 2) (.inl (by rfl))) (db_of de_int) (fun _ _ => rfl))) (db_of (de_strL (by decide +kernel))) (nomark _))
  (ds_one (ds_ret gok0 rfl (de_cmp or_gt os_ord (db_of (de_callV (ok_line_gap T) (takes_of rfl rfl rfl rfl) (hr.mono (by decide)) (by rfl) T.g_line_gap T.F_line_gap.kp T.b_line_gap (dm_bor (db_var 0 (pv 0) (.inr (.inr (by rfl)))) (dm_val (de_var 1 (pv 1) rfl) (dm_val (de_ix (db_var 3 (pv 3) (.inl (by rfl))) (db_of de_int) (fun _ _ => rfl)) (dm_val (de_ix (db_var 4 (pv 4) (.inl (by rfl))) (db_of de_int) (fun _ _ => rfl)) dm_nil)))))) (db_of (de_ix (db_var 2 (pv 2) (.inl (by rfl))) (db_of de_int) (fun _ _ => rfl))) (nomark _))))
  ds_nil)
  (ds_cons (ds_if gok0 (dt_cmp (or_eq hr.units) os_eq (db_of (de_ix (db_var 2 (pv 2) (.inl (by rfl))) (db_of de_int) (fun _ _ => rfl))) (db_of (de_strL (by decide +kernel))) (nomark _))
  (ds_one (ds_ret gok0 rfl (de_or (de_cmp or_gt os_ord (db_of (de_callV (ok_line_width T) (takes_of rfl rfl rfl rfl) (hr.mono (by decide)) (by rfl) T.g_line_width T.F_line_width.kp T.b_line_width (dm_bor (db_var 0 (pv 0) (.inr (.inr (by rfl)))) (dm_val (de_ix (db_var 3 (pv 3) (.inl (by rfl))) (db_of de_int) (fun _ _ => rfl)) (dm_val (de_ix (db_var 4 (pv 4) (.inl (by rfl))) (db_of de_int) (fun _ _ => rfl)) dm_nil))))) (db_of (de_fld T.cm_Book T.cl_Book T.na_Book_room (db_var 1 (pv 1) (.inl (by rfl))))) (nomark _)) (de_one (de_cmp or_gt os_ord (db_of (de_ix (db_var 5 (pv 5) (.inl (by rfl))) (db_of de_int) (fun _ _ => rfl))) (db_of (de_fld T.cm_Book T.cl_Book T.na_Book_height (db_var 1 (pv 1) (.inl (by rfl))))) (nomark _))))))
  ds_nil)
  (ds_cons (ds_if gok0 (PW.pt (dw_or (dt_cmp op_isN os_is (db_of (de_ix (db_var 4 (pv 4) (.inl (by rfl))) (db_of de_int) (fun _ _ => rfl))) (db_of de_non) (nomark _)) (dw_or1 (dt_cmp (or_eq hr.units) os_eq (db_of (de_ix (db_var 3 (pv 3) (.inl (by rfl))) (db_of de_int) (fun _ _ => rfl))) (db_of de_int) (nomark _)))))
  (ds_one (ds_ret gok0 rfl de_bl))
  ds_nil)
  (ds_cons (ds_if gok0 (dt_cmp (or_eq hr.units) os_eq (db_of (de_ix (db_var 2 (pv 2) (.inl (by rfl))) (db_of de_int) (fun _ _ => rfl))) (db_of (de_strL (by decide +kernel))) (nomark _))
  (ds_one (ds_ret gok0 rfl (de_and (de_cmp (or_eq hr.units) os_eq (db_of (de_ix (db_var 3 (pv 3) (.inl (by rfl))) (db_of de_int) (fun _ _ => rfl))) (db_var 7 (pv 7) (.inl (by rfl))) (nomark _)) (de_one (de_ix (db_of (de_ix (db_own (de_type (call_listO T.m_Galley___iter__ (ok_it_Galley T) T.m_Galley___len__ (ok_ln_Galley T) T.b_Galley_len (hr.mono (by decide)) rfl) (cs_listO T.cm_Galley) (by rfl) T.n_list (by decide +kernel) (dm_bor (db_var 0 (pv 0) (.inr (.inr (by rfl)))) dm_nil))) (db_of (de_op op_sub os_sub (db_var 6 (pv 6) (.inl (by rfl))) (db_of de_int))) (fun _ _ => rfl))) (db_of de_int) (fun _ _ => rfl))))))
  ds_nil)
  (ds_cons (ds_if gok0 (dt_cmp (or_eq hr.units) os_eq (db_of (de_ix (db_var 2 (pv 2) (.inl (by rfl))) (db_of de_int) (fun _ _ => rfl))) (db_of (de_strL (by decide +kernel))) (nomark _))
  (ds_one (ds_ret gok0 rfl (de_ix (db_var 3 (pv 3) (.inl (by rfl))) (db_of de_int) (fun _ _ => rfl))))
  ds_nil)
  (ds_cons (ds_if gok0 (dt_cmp (or_eq hr.units) os_eq (db_of (de_ix (db_var 2 (pv 2) (.inl (by rfl))) (db_of de_int) (fun _ _ => rfl))) (db_of (de_strL (by decide +kernel))) (nomark _))
  (ds_one (ds_ret gok0 rfl (de_and (de_cmp or_lt os_ord (db_var 7 (pv 7) (.inl (by rfl))) (db_of (de_ix (db_var 3 (pv 3) (.inl (by rfl))) (db_of de_int) (fun _ _ => rfl))) (nomark _)) (de_one (de_cmp (or_eq hr.units) os_eq (db_of (de_ix (db_var 4 (pv 4) (.inl (by rfl))) (db_of de_int) (fun _ _ => rfl))) (db_var 8 (pv 8) (.inl (by rfl))) (nomark _))))))
  ds_nil)
  (ds_one (ds_ret gok0 rfl (de_cmp or_gt os_ord (db_of (de_op op_sub os_sub (db_of (de_fld T.cm_Book T.cl_Book T.na_Book_height (db_var 1 (pv 1) (.inl (by rfl))))) (db_of (de_ix (db_var 3 (pv 3) (.inl (by rfl))) (db_of de_int) (fun _ _ => rfl))))) (db_of (de_ix (db_var 2 (pv 2) (.inl (by rfl))) (db_of de_int) (fun _ _ => rfl))) (nomark _)))))))))))
theorem ok_broken_at (T : Txt K mg) : FnOk P w K mg base (L2.CX P w) 13 T.f_broken_at T.fd_broken_at ["galley", "book", "laying", "promise"] (spD K T.cm [true, false, false, false] false F_broken_at)   := dok (G' := []) (k := 12) T.F_broken_at sc_broken_at rfl (by decide) fun cdv A outer s H E hr =>
  (ds_cons (ds_set 4 gok0 sc_broken_at.nd rfl (by first | exact Or.inl rfl | exact Or.inr rfl) (de_pub (de_callO (ok_states_of T) (takes_of rfl rfl rfl rfl) (hr.mono (by decide)) (by rfl) T.g_states_of T.F_states_of.kp T.b_states_of (dm_bor (db_var 0 (pv 0) (.inr (.inr (by rfl)))) (dm_val (de_var 1 (pv 1) rfl) (dm_val (de_var 2 (pv 2) rfl) dm_nil))))))
  (ds_cons (ds_for gok0 (passes_of rfl) rfl (di_rng1 T.n_range (by rfl) (da_cons (de_bltn call_len cs_len (by rfl) T.n_len (by decide +kernel) (dm_bor (db_var 2 (pv 2) (.inl (by rfl))) dm_nil)) da_nil)) (dg_name 5 sc_broken_at.nd rfl (by first | exact Or.inl rfl | exact Or.inr rfl))
  (ds_one (ds_if gok0 (dt_val (de_callV (ok_is_forbidden T) (takes_of rfl rfl rfl rfl) (hr.mono (by decide)) (by rfl) T.g_is_forbidden T.F_is_forbidden.kp T.b_is_forbidden (dm_bor (db_var 0 (pv 0) (.inr (.inr (by rfl)))) (dm_val (de_var 1 (pv 1) rfl) (dm_val (de_var 3 (pv 3) rfl) (dm_val (de_ix (db_var 4 (pv 4) (.inl (by rfl))) (db_var 5 (pv 5) (.inl (by rfl))) (fun _ _ => rfl)) (dm_val (de_ix (db_var 2 (pv 2) (.inl (by rfl))) (db_var 5 (pv 5) (.inl (by rfl))) (fun _ _ => rfl)) (dm_val (de_ix (db_var 4 (pv 4) (.inl (by rfl))) (db_of (de_op or_add os_add (db_var 5 (pv 5) (.inl (by rfl))) (db_of de_int))) (fun _ _ => rfl)) dm_nil))))))))
  (ds_one (ds_ret gok0 rfl (de_var 5 (pv 5) rfl)))
  ds_nil)))
  (ds_one (ds_ret gok0 rfl de_non))))
theorem ok_is_number (T : Txt K mg) : FnOk P w K mg base (L2.CX P w) 1 T.f_is_number T.fd_is_number ["value"] (spD K T.cm [false] false F_is_number)   := dok (G' := []) (k := 0) T.F_is_number sc_is_number rfl (by decide) fun cdv A outer s H E hr =>
  (ds_one (ds_ret gok0 rfl (de_and (de_isi "int" T.n_isinstance (by rfl) (by rfl) T.n_int (by decide +kernel) (db_var 0 (pv 0) (.inl (by rfl)))) (de_one (de_not (de_isi "bool" T.n_isinstance (by rfl) (by rfl) T.n_bool (by decide +kernel) (db_var 0 (pv 0) (.inl (by rfl)))))))))
theorem ok_is_within (T : Txt K mg) : FnOk P w K mg base (L2.CX P w) 2 T.f_is_within T.fd_is_within ["value", "least", "most"] (spD K T.cm [false, false, false] false F_is_within)   := dok (G' := []) (k := 1) T.F_is_within sc_is_within rfl (by decide) fun cdv A outer s H E hr =>
  (ds_one (ds_ret gok0 rfl (de_and (de_callV (ok_is_number T) (takes_of rfl rfl rfl rfl) (hr.mono (by decide)) (by rfl) T.g_is_number T.F_is_number.kp T.b_is_number (dm_val (de_var 0 (pv 0) rfl) dm_nil)) (de_one (de_chain or_le os_ord or_le os_ord (db_var 1 (pv 1) (.inl (by rfl))) (db_var 0 (pv 0) (.inl (by rfl))) (db_var 2 (pv 2) (.inl (by rfl))))))))
theorem ok_Book_init (T : Txt K mg) : FnOk P w K mg base (L2.CX P w) 3 T.f_Book_init T.fd_Book_init ["self", "room", "height", "joint", "over", "keep", "orphan", "widow", "wait", "columns", "gutter", "full"] (spI K T.cm T.a_Book [false, false, false, false, false, false, false, false, false, false, false] F_Book_init)   := dokI (k := 2) T.F_Book_init sc_Book_init T.cm_Book rfl (by decide) (fun _ => rfl) fun cdv A outer s H E a hr =>
  (ds_cons (ds_set 12 gok0 sc_Book_init.nd rfl (by first | exact Or.inl rfl | exact Or.inr rfl) (de_tup (da_cons (de_var 1 (pv 1) rfl) (da_cons (de_var 2 (pv 2) rfl) (da_cons (de_var 3 (pv 3) rfl) (da_cons (de_var 4 (pv 4) rfl) (da_cons (de_var 5 (pv 5) rfl) (da_cons (de_var 6 (pv 6) rfl) (da_cons (de_var 7 (pv 7) rfl) (da_cons (de_var 8 (pv 8) rfl) (da_cons (de_var 9 (pv 9) rfl) (da_cons (de_var 10 (pv 10) rfl) da_nil))))))))))))
  (ds_cons (ds_for gok0 (passes_of rfl) rfl (di_zip4 T.n_zip (by rfl) (da_cons (de_cval (v := .ref T.kv_Book_FIELDS) (by rfl) T.g_Book T.cr_Book T.cv_Book_FIELDS fun S => T.kvc_Book_FIELDS S) (da_cons (de_var 12 (pv 12) rfl) (da_cons (de_c (v := .ref T.k_LEAST) (pe_glob (by rfl) T.c_LEAST rfl) fun S => T.kc_LEAST S) (da_cons (de_c (v := .ref T.k_MOST) (pe_glob (by rfl) T.c_MOST rfl) fun S => T.kc_MOST S) da_nil))))) (dg_tup rfl (dg_cons (dg_name 13 sc_Book_init.nd rfl (by first | exact Or.inl rfl | exact Or.inr rfl)) (dg_cons (dg_name 14 sc_Book_init.nd rfl (by first | exact Or.inl rfl | exact Or.inr rfl)) (dg_cons (dg_name 15 sc_Book_init.nd rfl (by first | exact Or.inl rfl | exact Or.inr rfl)) (dg_cons (dg_name 16 sc_Book_init.nd rfl (by first | exact Or.inl rfl | exact Or.inr rfl)) dg_nil)))))
  (ds_one (ds_if gok0 (dt_not (dt_val (de_callV (ok_is_within T) (takes_of rfl rfl rfl rfl) (hr.mono (by decide)) (by rfl) T.g_is_within T.F_is_within.kp T.b_is_within (dm_val (de_var 14 (pv 14) rfl) (dm_val (de_var 15 (pv 15) rfl) (dm_val (de_var 16 (pv 16) rfl) dm_nil))))))
  (ds_one (ds_raise1 gok0 T.cm_BadBook rfl (takes_of rfl rfl rfl rfl) T.o_BadBook T.i_BadBook T.ti_BadBook T.no_BadBook_field (ox_BadBook T) (hr.mono (by decide)) T.b_BadBook (by rfl) T.g_BadBook (da_cons (de_var 13 (pv 13) rfl) da_nil)))
  ds_nil)))
  (ds_cons (ds_if gok0 (dt_not (dt_val (de_isi "bool" T.n_isinstance (by rfl) (by rfl) T.n_bool (by decide +kernel) (db_var 11 (pv 11) (.inl (by rfl))))))
  (ds_one (ds_raise1 gok0 T.cm_BadBook rfl (takes_of rfl rfl rfl rfl) T.o_BadBook T.i_BadBook T.ti_BadBook T.no_BadBook_field (ox_BadBook T) (hr.mono (by decide)) T.b_BadBook (by rfl) T.g_BadBook (da_cons (de_strL (by decide +kernel)) da_nil)))
  ds_nil)
  (ds_cons (ds_fst 0 gok0 T.cm_Book T.cl_Book T.na_Book_room trivial (pv 0) (de_var 1 (pv 1) rfl))
  (ds_cons (ds_fst 0 gok0 T.cm_Book T.cl_Book T.na_Book_height trivial (pv 0) (de_var 2 (pv 2) rfl))
  (ds_cons (ds_fst 0 gok0 T.cm_Book T.cl_Book T.na_Book_joint trivial (pv 0) (de_var 3 (pv 3) rfl))
  (ds_cons (ds_fst 0 gok0 T.cm_Book T.cl_Book T.na_Book_over trivial (pv 0) (de_var 4 (pv 4) rfl))
  (ds_cons (ds_fst 0 gok0 T.cm_Book T.cl_Book T.na_Book_keep trivial (pv 0) (de_var 5 (pv 5) rfl))
  (ds_cons (ds_fst 0 gok0 T.cm_Book T.cl_Book T.na_Book_orphan trivial (pv 0) (de_var 6 (pv 6) rfl))
  (ds_cons (ds_fst 0 gok0 T.cm_Book T.cl_Book T.na_Book_widow trivial (pv 0) (de_var 7 (pv 7) rfl))
  (ds_cons (ds_fst 0 gok0 T.cm_Book T.cl_Book T.na_Book_wait trivial (pv 0) (de_var 8 (pv 8) rfl))
  (ds_cons (ds_fst 0 gok0 T.cm_Book T.cl_Book T.na_Book_columns trivial (pv 0) (de_var 9 (pv 9) rfl))
  (ds_cons (ds_fst 0 gok0 T.cm_Book T.cl_Book T.na_Book_gutter trivial (pv 0) (de_var 10 (pv 10) rfl))
  (ds_cons (ds_fst 0 gok0 T.cm_Book T.cl_Book T.na_Book_full trivial (pv 0) (de_var 11 (pv 11) rfl))
  (ds_one (ds_fst 0 gok0 T.cm_Book T.cl_Book T.na_Book_field_values trivial (pv 0) (de_op or_add os_add (db_var 12 (pv 12) (.inl (by rfl))) (db_of (de_tup (da_cons (de_var 11 (pv 11) rfl) da_nil))))))))))))))))))))
theorem ok_pieces_in (T : Txt K mg) : FnOk P w K mg base (L2.CX P w) 1 T.f_pieces_in T.fd_pieces_in ["blocks"] (spD K T.cm [false] false F_pieces_in)   := dok (G' := []) (k := 0) T.F_pieces_in sc_pieces_in rfl (by decide) fun cdv A outer s H E hr =>
  (ds_one (ds_ret gok0 rfl (de_pub (de_lc2 (G' := [.v, .v, .v]) (G2 := [.v, .v, .v]) (own := [("block", 1), ("piece", 2)]) (vs1 := [2]) rfl sc_pieces_in.nd (noOwn_of rfl) (di_varX 0 (pv 0) rfl) (blkOk_by (own := [("block", 1), ("piece", 2)]) (N := ["blocks", "block", "piece"]) (sc := defScope s_pieces_in) (by decide +kernel)) (by decide) (fun _ _ _ _ _ => (dg_more (by decide) (dg_name 1 sc_pieces_in.nd rfl (by first | exact Or.inl rfl | exact Or.inr rfl)))) (fun _ _ _ _ _ => dt_nil) (fun _ _ _ _ _ => (di_tup (de_ix (db_var 1 (pv 1) (.inl (by rfl))) (db_of de_int) (fun _ _ => rfl)))) (fun _ _ _ _ _ => (dg_name 2 sc_pieces_in.nd rfl (by first | exact Or.inl rfl | exact Or.inr rfl))) (fun _ _ _ _ _ => dt_nil) (fun _ _ _ _ _ => (de_var 2 (pv 2) rfl))))))
theorem ok_figures_in (T : Txt K mg) : FnOk P w K mg base (L2.CX P w) 2 T.f_figures_in T.fd_figures_in ["blocks"] (spD K T.cm [false] false F_figures_in)   := dok (G' := []) (k := 1) T.F_figures_in sc_figures_in rfl (by decide) fun cdv A outer s H E hr =>
  (ds_one (ds_ret gok0 rfl (de_pub (de_lc2 (G' := [.v, .v, .v]) (G2 := [.v, .v, .v]) (own := [("piece", 1), ("height", 2)]) (vs1 := [2]) rfl sc_figures_in.nd (noOwn_of rfl) (di_list (de_callV (ok_pieces_in T) (takes_of rfl rfl rfl rfl) (hr.mono (by decide)) (by rfl) T.g_pieces_in T.F_pieces_in.kp T.b_pieces_in (dm_val (de_var 0 (pv 0) rfl) dm_nil))) (blkOk_by (own := [("piece", 1), ("height", 2)]) (N := ["blocks", "piece", "height"]) (sc := defScope s_figures_in) (by decide +kernel)) (by decide) (fun _ _ _ _ _ => (dg_more (by decide) (dg_name 1 sc_figures_in.nd rfl (by first | exact Or.inl rfl | exact Or.inr rfl)))) (fun _ _ _ _ _ => dt_nil) (fun _ _ _ _ _ => (di_tup (de_ix (db_var 1 (pv 1) (.inl (by rfl))) (db_of de_int) (fun _ _ => rfl)))) (fun _ _ _ _ _ => (dg_name 2 sc_figures_in.nd rfl (by first | exact Or.inl rfl | exact Or.inr rfl))) (fun _ _ _ _ _ => dt_nil) (fun _ _ _ _ _ => (de_var 2 (pv 2) rfl))))))
theorem ok_spans_in (T : Txt K mg) : FnOk P w K mg base (L2.CX P w) 1 T.f_spans_in T.fd_spans_in ["blocks"] (spD K T.cm [false] false F_spans_in)   := dok (G' := []) (k := 0) T.F_spans_in sc_spans_in rfl (by decide) fun cdv A outer s H E hr =>
  (ds_cons (ds_setO 1 gok0 (show 1 < 6 by decide) sc_spans_in.nd rfl (by first | exact Or.inl rfl | exact Or.inr rfl) (de_lst da_nil))
  (ds_cons (ds_for gok0 (passes_of rfl) rfl (di_enumX 0 T.n_enumerate (by rfl) (pv 0) rfl) (dg_tup rfl (dg_cons (dg_name 2 sc_spans_in.nd rfl (by first | exact Or.inl rfl | exact Or.inr rfl)) (dg_cons (dg_name 3 sc_spans_in.nd rfl (by first | exact Or.inl rfl | exact Or.inr rfl)) dg_nil)))
  (ds_cons (ds_set 4 gok0 sc_spans_in.nd rfl (by first | exact Or.inl rfl | exact Or.inr rfl) (de_bltn call_len cs_len (by rfl) T.n_len (by decide +kernel) (dm_bor (db_var 1 (pv 1) (.inr (.inl (by trivial)))) dm_nil)))
  (ds_cons (ds_set 5 gok0 sc_spans_in.nd rfl (by first | exact Or.inl rfl | exact Or.inr rfl) (de_op or_add os_add (db_var 4 (pv 4) (.inl (by rfl))) (db_of (de_bltn call_len cs_len (by rfl) T.n_len (by decide +kernel) (dm_bor (db_of (de_ix (db_var 3 (pv 3) (.inl (by rfl))) (db_of de_int) (fun _ _ => rfl))) dm_nil)))))
  (ds_one (ds_ext 1 gok0 rfl (pv 1) (de_op or_mulX os_mulX (db_own (de_lst (da_cons (de_tup (da_cons (de_var 2 (pv 2) rfl) (da_cons (de_var 4 (pv 4) rfl) (da_cons (de_var 5 (pv 5) rfl) da_nil)))) da_nil))) (db_of (de_bltn call_len cs_len (by rfl) T.n_len (by decide +kernel) (dm_bor (db_of (de_ix (db_var 3 (pv 3) (.inl (by rfl))) (db_of de_int) (fun _ _ => rfl))) dm_nil)))))))))
  (ds_pub 1 (ds_one (ds_ret gok0 rfl (de_var 1 (pv 1) rfl))) (.inl rfl))))
theorem ok_Galley_init (T : Txt K mg) : FnOk P w K mg base (L2.CX P w) 3 T.f_Galley_init T.fd_Galley_init ["self", "blocks"] (spI K T.cm T.a_Galley [false] F_Galley_init)   := dokIE (k := 2) T.F_Galley_init sc_Galley_init T.cm_Galley rfl (by decide) (fun _ => rfl) fun cdv A outer s H E a hr =>
  (ds_cons (ds_par 2 3 gok0 rfl sc_Galley_init.nd rfl rfl (by decide) rfl rfl (de_callV (ok_pieces_in T) (takes_of rfl rfl rfl rfl) (hr.mono (by decide)) (by rfl) T.g_pieces_in T.F_pieces_in.kp T.b_pieces_in (dm_val (de_var 1 (pv 1) rfl) dm_nil)) (de_callV (ok_figures_in T) (takes_of rfl rfl rfl rfl) (hr.mono (by decide)) (by rfl) T.g_figures_in T.F_figures_in.kp T.b_figures_in (dm_val (de_var 1 (pv 1) rfl) dm_nil)) (by rfl))
  (ds_cons (ds_if gok0 (dt_cmp or_gt os_ord (db_of (de_bltn call_len cs_len (by rfl) T.n_len (by decide +kernel) (dm_bor (db_var 2 (pv 2) (.inl (by rfl))) dm_nil))) (db_of (de_c (v := .int 40) (pe_glob (by rfl) T.c_MOST_PIECES ⟨_, rfl⟩) fun _ => .int _)) (nomark _))
  (ds_one (ds_raise1 gok0 T.cm_TooLarge rfl (takes_of rfl rfl rfl rfl) T.o_TooLarge T.i_TooLarge T.ti_TooLarge T.no_TooLarge_many (ox_TooLarge T) (hr.mono (by decide)) T.b_TooLarge (by rfl) T.g_TooLarge (da_cons (de_bltn call_len cs_len (by rfl) T.n_len (by decide +kernel) (dm_bor (db_var 2 (pv 2) (.inl (by rfl))) dm_nil)) da_nil)))
  ds_nil)
  (ds_cons (ds_if gok0 (dt_cmp or_gt os_ord (db_of (de_bltn call_len cs_len (by rfl) T.n_len (by decide +kernel) (dm_bor (db_var 3 (pv 3) (.inl (by rfl))) dm_nil))) (db_of (de_c (v := .int 4) (pe_glob (by rfl) T.c_MOST_FIGURES ⟨_, rfl⟩) fun _ => .int _)) (nomark _))
  (ds_one (ds_raise1 gok0 T.cm_TooLarge rfl (takes_of rfl rfl rfl rfl) T.o_TooLarge T.i_TooLarge T.ti_TooLarge T.no_TooLarge_many (ox_TooLarge T) (hr.mono (by decide)) T.b_TooLarge (by rfl) T.g_TooLarge (da_cons (de_bltn call_len cs_len (by rfl) T.n_len (by decide +kernel) (dm_bor (db_var 3 (pv 3) (.inl (by rfl))) dm_nil)) da_nil)))
  ds_nil)
  (ds_cons (ds_fst 0 gok0 T.cm_Galley T.cl_Galley T.na_Galley_blocks trivial (pv 0) (de_pub (de_type call_list_of cs_list (by rfl) T.n_list (by decide +kernel) (dm_bor (db_var 1 (pv 1) (.inl (by rfl))) dm_nil))))
  (ds_cons (ds_fst 0 gok0 T.cm_Galley T.cl_Galley T.na_Galley_spans trivial (pv 0) (de_callV (ok_spans_in T) (takes_of rfl rfl rfl rfl) (hr.mono (by decide)) (by rfl) T.g_spans_in T.F_spans_in.kp T.b_spans_in (dm_val (de_var 1 (pv 1) rfl) dm_nil)))
  (ds_cons (ds_fst 0 gok0 T.cm_Galley T.cl_Galley T.na_Galley_all_pieces trivial (pv 0) (de_var 2 (pv 2) rfl))
  (ds_one (ds_fst 0 gok0 T.cm_Galley T.cl_Galley T.na_Galley_all_figures trivial (pv 0) (de_var 3 (pv 3) rfl)))))))))
theorem ok_l_cell (T : Txt K mg) : FnOk P w K mg base (L2.CX P w) 1 T.f_l_cell T.fd_l_cell ["_law_script", "_law_k"] (spD K T.cm [false, false] false F_l_cell)   := dok (G' := []) (k := 0) T.F_l_cell sc_l_cell rfl (by decide) fun cdv A outer s H E hr =>
  (ds_cons (ds_if gok0 (dt_cmp or_lt os_ord (db_var 1 (pv 1) (.inl (by rfl))) (db_of (de_bltn call_len cs_len (by rfl) T.n_len (by decide +kernel) (dm_bor (db_var 0 (pv 0) (.inl (by rfl))) dm_nil))) (nomark _))
  (ds_one (ds_ret gok0 rfl (de_type cr_int cs_int (by rfl) T.n_int (by decide +kernel) (dm_bor (db_of (de_ix (db_var 0 (pv 0) (.inl (by rfl))) (db_var 1 (pv 1) (.inl (by rfl))) (fun _ _ => rfl))) dm_nil))))
  ds_nil)
  (ds_one (ds_ret gok0 rfl de_int)))
theorem ok_l_row (T : Txt K mg) : FnOk P w K mg base (L2.CX P w) 1 T.f_l_row T.fd_l_row ["_law_cell_here", "_law_limits"] (spD K T.cm [false, false] false F_l_row)   := dok (G' := []) (k := 0) T.F_l_row sc_l_row rfl (by decide) fun cdv A outer s H E hr =>
  (ds_cons (ds_setO 2 gok0 (show 2 < 7 by decide) sc_l_row.nd rfl (by first | exact Or.inl rfl | exact Or.inr rfl) (de_lst da_nil))
  (ds_cons (ds_if gok0 (dt_cmp or_ge os_ord (db_var 0 (pv 0) (.inl (by rfl))) (db_of de_int) (nomark _))
  (ds_cons (ds_set 3 gok0 sc_l_row.nd rfl (by first | exact Or.inl rfl | exact Or.inr rfl) (de_op op_sub os_sub (db_var 0 (pv 0) (.inl (by rfl))) (db_of de_int)))
  (ds_cons (ds_for gok0 (passes_of rfl) rfl (di_list (de_var 1 (pv 1) rfl)) (dg_name 4 sc_l_row.nd rfl (by first | exact Or.inl rfl | exact Or.inr rfl))
  (ds_cons (ds_app 2 gok0 rfl (pv 2) (de_op op_mod os_mod (db_of (de_type cr_int cs_int (by rfl) T.n_int (by decide +kernel) (dm_bor (db_var 3 (pv 3) (.inl (by rfl))) dm_nil))) (db_var 4 (pv 4) (.inl (by rfl)))))
  (ds_one (ds_set 3 gok0 sc_l_row.nd rfl (by first | exact Or.inl rfl | exact Or.inr rfl) (de_op or_fdiv os_fdiv (db_var 3 (pv 3) (.inl (by rfl))) (db_var 4 (pv 4) (.inl (by rfl))))))))
  (ds_pub 2 (ds_one (ds_ret gok0 rfl (de_var 2 (pv 2) rfl))) (.inl rfl))))
  ds_nil)
  (ds_cons (ds_for gok0 (passes_of rfl) rfl (di_rng1 T.n_range (by rfl) (da_cons (de_bltn call_len cs_len (by rfl) T.n_len (by decide +kernel) (dm_bor (db_var 1 (pv 1) (.inl (by rfl))) dm_nil)) da_nil)) (dg_name 5 sc_l_row.nd rfl (by first | exact Or.inl rfl | exact Or.inr rfl))
  (ds_cons (ds_set 6 gok0 sc_l_row.nd rfl (by first | exact Or.inl rfl | exact Or.inr rfl) (de_op op_mod os_mod (db_of (de_type cr_int cs_int (by rfl) T.n_int (by decide +kernel) (dm_bor (db_of (de_op or_add os_add (db_of (de_op or_add os_add (db_of (de_op or_mulX os_mulX (db_var 0 (pv 0) (.inl (by rfl))) (db_of de_int))) (db_of (de_op or_mulX os_mulX (db_var 5 (pv 5) (.inl (by rfl))) (db_of de_int))))) (db_of de_int))) dm_nil))) (db_of de_int)))
  (ds_cons (ds_set 6 gok0 sc_l_row.nd rfl (by first | exact Or.inl rfl | exact Or.inr rfl) (de_op op_mod os_mod (db_of (de_type cr_int cs_int (by rfl) T.n_int (by decide +kernel) (dm_bor (db_of (de_op or_add os_add (db_of (de_op or_add os_add (db_of (de_op or_mulX os_mulX (db_var 6 (pv 6) (.inl (by rfl))) (db_of (de_op or_add os_add (db_of de_int) (db_of (de_op or_mulX os_mulX (db_of de_int) (db_var 5 (pv 5) (.inl (by rfl))))))))) (db_of (de_op or_mulX os_mulX (db_of (de_op or_mulX os_mulX (db_var 5 (pv 5) (.inl (by rfl))) (db_var 5 (pv 5) (.inl (by rfl))))) (db_of de_int))))) (db_of de_int))) dm_nil))) (db_of de_int)))
  (ds_one (ds_app 2 gok0 rfl (pv 2) (de_op op_mod os_mod (db_of (de_type cr_int cs_int (by rfl) T.n_int (by decide +kernel) (dm_bor (db_of (de_op or_fdiv os_fdiv (db_var 6 (pv 6) (.inl (by rfl))) (db_of de_int))) dm_nil))) (db_of (de_ix (db_var 1 (pv 1) (.inl (by rfl))) (db_var 5 (pv 5) (.inl (by rfl))) (fun _ _ => rfl)))))))))
  (ds_pub 2 (ds_one (ds_ret gok0 rfl (de_var 2 (pv 2) rfl))) (.inl rfl)))))
theorem ok_l_same (T : Txt K mg) : ∀ {n : Nat}, FnOk P w K mg base (L2.CX P w) (1 + n) T.f_l_same T.fd_l_same ["_law_one", "_law_two"] (spD K T.cm [true, true] false (F_l_same n))
  | 0 => fnok_bad
  | n + 1 => dok (G' := []) (k := 1 + n) T.F_l_same sc_l_same rfl (by decide) fun cdv A outer s H E hr => by
    have ih := fun T => ok_l_same T (n := n)
    exact (ds_cons (ds_if gok0 (dt_cmp op_isN os_is (db_var 1 (pv 1) (.inr (.inr (by rfl)))) (db_of de_non) (nomark _))
  (ds_one (ds_ret gok0 rfl (de_cmp op_isN os_is (db_var 0 (pv 0) (.inr (.inr (by rfl)))) (db_of de_non) (nomark _))))
  ds_nil)
  (ds_cons (ds_if gok0 (dt_val (de_isi "bool" T.n_isinstance (by rfl) (by rfl) T.n_bool (by decide +kernel) (db_var 1 (pv 1) (.inr (.inr (by rfl))))))
  (ds_one (ds_ret gok0 rfl (de_and (de_isi "bool" T.n_isinstance (by rfl) (by rfl) T.n_bool (by decide +kernel) (db_var 0 (pv 0) (.inr (.inr (by rfl))))) (de_one (de_cmp (or_eq hr.units) os_eq (db_var 0 (pv 0) (.inr (.inr (by rfl)))) (db_var 1 (pv 1) (.inr (.inr (by rfl)))) (nomark _))))))
  ds_nil)
  (ds_cons (ds_if gok0 (dt_val (de_isi "int" T.n_isinstance (by rfl) (by rfl) T.n_int (by decide +kernel) (db_var 1 (pv 1) (.inr (.inr (by rfl))))))
  (ds_one (ds_ret gok0 rfl (de_and (de_isi "int" T.n_isinstance (by rfl) (by rfl) T.n_int (by decide +kernel) (db_var 0 (pv 0) (.inr (.inr (by rfl))))) (de_and (de_not (de_isi "bool" T.n_isinstance (by rfl) (by rfl) T.n_bool (by decide +kernel) (db_var 0 (pv 0) (.inr (.inr (by rfl)))))) (de_one (de_cmp (or_eq hr.units) os_eq (db_var 0 (pv 0) (.inr (.inr (by rfl)))) (db_var 1 (pv 1) (.inr (.inr (by rfl)))) (nomark _)))))))
  ds_nil)
  (ds_cons (ds_if gok0 (dt_val (de_isi "str" T.n_isinstance (by rfl) (by rfl) T.n_str (by decide +kernel) (db_var 1 (pv 1) (.inr (.inr (by rfl))))))
  (ds_one (ds_ret gok0 rfl (de_and (de_isi "str" T.n_isinstance (by rfl) (by rfl) T.n_str (by decide +kernel) (db_var 0 (pv 0) (.inr (.inr (by rfl))))) (de_one (de_cmp (or_eq hr.units) os_eq (db_var 0 (pv 0) (.inr (.inr (by rfl)))) (db_var 1 (pv 1) (.inr (.inr (by rfl)))) (nomark _))))))
  ds_nil)
  (ds_cons (ds_if gok0 (PW.pt (dw_and (dt_val (de_isi "tuple" T.n_isinstance (by rfl) (by rfl) T.n_tuple (by decide +kernel) (db_var 1 (pv 1) (.inr (.inr (by rfl)))))) (dw_and1 (dt_not (dt_val (de_isi "tuple" T.n_isinstance (by rfl) (by rfl) T.n_tuple (by decide +kernel) (db_var 0 (pv 0) (.inr (.inr (by rfl))))))))))
  (ds_one (ds_ret gok0 rfl de_bl))
  ds_nil)
  (ds_cons (ds_if gok0 (PW.pt (dw_and (dt_val (de_isi "list" T.n_isinstance (by rfl) (by rfl) T.n_list (by decide +kernel) (db_var 1 (pv 1) (.inr (.inr (by rfl)))))) (dw_and1 (dt_not (dt_val (de_isi "list" T.n_isinstance (by rfl) (by rfl) T.n_list (by decide +kernel) (db_var 0 (pv 0) (.inr (.inr (by rfl))))))))))
  (ds_one (ds_ret gok0 rfl de_bl))
  ds_nil)
  (ds_cons (ds_if gok0 (PW.pt (dw_or (dt_val (de_isi "tuple" T.n_isinstance (by rfl) (by rfl) T.n_tuple (by decide +kernel) (db_var 1 (pv 1) (.inr (.inr (by rfl)))))) (dw_or1 (dt_val (de_isi "list" T.n_isinstance (by rfl) (by rfl) T.n_list (by decide +kernel) (db_var 1 (pv 1) (.inr (.inr (by rfl)))))))))
  (ds_cons (ds_if gok0 (dt_cmp (or_ne hr.units) os_ne (db_of (de_bltn call_len cs_len (by rfl) T.n_len (by decide +kernel) (dm_bor (db_var 0 (pv 0) (.inr (.inr (by rfl)))) dm_nil))) (db_of (de_bltn call_len cs_len (by rfl) T.n_len (by decide +kernel) (dm_bor (db_var 1 (pv 1) (.inr (.inr (by rfl)))) dm_nil))) (nomark _))
  (ds_one (ds_ret gok0 rfl de_bl))
  ds_nil)
  (ds_cons (ds_for gok0 (passes_of rfl) rfl (di_rng1 T.n_range (by rfl) (da_cons (de_bltn call_len cs_len (by rfl) T.n_len (by decide +kernel) (dm_bor (db_var 1 (pv 1) (.inr (.inr (by rfl)))) dm_nil)) da_nil)) (dg_name 2 sc_l_same.nd rfl (by first | exact Or.inl rfl | exact Or.inr rfl))
  (ds_one (ds_if gok0 (dt_not (dt_val (de_callV (ih T) (takes_of rfl rfl rfl rfl) hr (by rfl) T.g_l_same T.F_l_same.kp T.b_l_same (dm_bor (db_of (de_ix (db_var 0 (pv 0) (.inr (.inr (by rfl)))) (db_var 2 (pv 2) (.inl (by rfl))) (fun _ _ => rfl))) (dm_bor (db_of (de_ix (db_var 1 (pv 1) (.inr (.inr (by rfl)))) (db_var 2 (pv 2) (.inl (by rfl))) (fun _ _ => rfl))) dm_nil)))))
  (ds_one (ds_ret gok0 rfl de_bl))
  ds_nil)))
  (ds_one (ds_ret gok0 rfl de_bl))))
  ds_nil)
  (ds_one (ds_ret gok0 rfl de_bl)))))))))
theorem ok_l_block (T : Txt K mg) : FnOk P w K mg base (L2.CX P w) 2 T.f_l_block T.fd_l_block ["_law_cell_here", "_law_many", "_law_scale"] (spD K T.cm [false, false, false] false F_l_block)   := dok (G' := []) (k := 1) T.F_l_block sc_l_block rfl (by decide) fun cdv A outer s H E hr =>
  (ds_cons (ds_set 3 gok0 sc_l_block.nd rfl (by first | exact Or.inl rfl | exact Or.inr rfl) (de_pub (de_lst (da_cons de_int (da_cons de_int (da_cons de_int (da_cons de_int da_nil)))))))
  (ds_cons (ds_for gok0 (passes_of rfl) rfl (di_rng1 T.n_range (by rfl) (da_cons (de_var 1 (pv 1) rfl) da_nil)) (dg_name 4 sc_l_block.nd rfl (by first | exact Or.inl rfl | exact Or.inr rfl))
  (ds_one (ds_set 3 gok0 sc_l_block.nd rfl (by first | exact Or.inl rfl | exact Or.inr rfl) (de_op or_add os_add (db_var 3 (pv 3) (.inl (by rfl))) (db_own (de_lst (da_cons de_int (da_cons de_int (da_cons de_int (da_cons de_int (da_cons de_int da_nil)))))))))))
  (ds_cons (ds_set 5 gok0 sc_l_block.nd rfl (by first | exact Or.inl rfl | exact Or.inr rfl) (de_callV (ok_l_row T) (takes_of rfl rfl rfl rfl) (hr.mono (by decide)) (by rfl) T.g_l_row T.F_l_row.kp T.b_l_row (dm_val (de_var 0 (pv 0) rfl) (dm_val (de_var 3 (pv 3) rfl) dm_nil))))
  (ds_cons (ds_setO 6 gok0 (show 6 < 10 by decide) sc_l_block.nd rfl (by first | exact Or.inl rfl | exact Or.inr rfl) (de_lst da_nil))
  (ds_cons (ds_for gok0 (passes_of rfl) rfl (di_rng1 T.n_range (by rfl) (da_cons (de_var 1 (pv 1) rfl) da_nil)) (dg_name 4 sc_l_block.nd rfl (by first | exact Or.inl rfl | exact Or.inr rfl))
  (ds_cons (ds_set 7 gok0 sc_l_block.nd rfl (by first | exact Or.inl rfl | exact Or.inr rfl) (de_tup (da_cons (de_strL (by decide +kernel)) (da_cons (de_op or_mulX os_mulX (db_of (de_op or_add os_add (db_of (de_ix (db_var 5 (pv 5) (.inl (by rfl))) (db_of (de_op or_add os_add (db_of (de_op or_mulX os_mulX (db_of de_int) (db_var 4 (pv 4) (.inl (by rfl))))) (db_of de_int))) (fun _ _ => rfl))) (db_of de_int))) (db_var 2 (pv 2) (.inl (by rfl)))) da_nil))))
  (ds_cons (ds_if gok0 (dt_cmp (or_eq hr.units) os_eq (db_of (de_ix (db_var 5 (pv 5) (.inl (by rfl))) (db_of (de_op or_add os_add (db_of (de_op or_mulX os_mulX (db_of de_int) (db_var 4 (pv 4) (.inl (by rfl))))) (db_of de_int))) (fun _ _ => rfl))) (db_of de_int) (nomark _))
  (ds_one (ds_set 7 gok0 sc_l_block.nd rfl (by first | exact Or.inl rfl | exact Or.inr rfl) (de_tup (da_cons (de_strL (by decide +kernel)) (da_cons (de_op or_mulX os_mulX (db_of (de_ix (db_var 5 (pv 5) (.inl (by rfl))) (db_of (de_op or_add os_add (db_of (de_op or_mulX os_mulX (db_of de_int) (db_var 4 (pv 4) (.inl (by rfl))))) (db_of de_int))) (fun _ _ => rfl))) (db_var 2 (pv 2) (.inl (by rfl)))) da_nil)))))
  ds_nil)
  (ds_cons (ds_if gok0 (dt_cmp (or_eq hr.units) os_eq (db_var 4 (pv 4) (.inl (by rfl))) (db_of (de_op op_sub os_sub (db_var 1 (pv 1) (.inl (by rfl))) (db_of de_int))) (nomark _))
  (ds_one (ds_set 7 gok0 sc_l_block.nd rfl (by first | exact Or.inl rfl | exact Or.inr rfl) (de_tup (da_cons (de_strL (by decide +kernel)) da_nil))))
  ds_nil)
  (ds_cons (ds_set 8 gok0 sc_l_block.nd rfl (by first | exact Or.inl rfl | exact Or.inr rfl) (de_tup da_nil))
  (ds_cons (ds_if gok0 (dt_cmp (or_eq hr.units) os_eq (db_of (de_ix (db_var 5 (pv 5) (.inl (by rfl))) (db_of (de_op or_add os_add (db_of (de_op or_mulX os_mulX (db_of de_int) (db_var 4 (pv 4) (.inl (by rfl))))) (db_of de_int))) (fun _ _ => rfl))) (db_of de_int) (nomark _))
  (ds_one (ds_set 8 gok0 sc_l_block.nd rfl (by first | exact Or.inl rfl | exact Or.inr rfl) (de_tup (da_cons (de_var 2 (pv 2) rfl) da_nil))))
  ds_nil)
  (ds_cons (ds_set 9 gok0 sc_l_block.nd rfl (by first | exact Or.inl rfl | exact Or.inr rfl) (de_tup da_nil))
  (ds_cons (ds_if gok0 (dt_cmp (or_eq hr.units) os_eq (db_of (de_ix (db_var 5 (pv 5) (.inl (by rfl))) (db_of (de_op or_add os_add (db_of (de_op or_mulX os_mulX (db_of de_int) (db_var 4 (pv 4) (.inl (by rfl))))) (db_of de_int))) (fun _ _ => rfl))) (db_of de_int) (nomark _))
  (ds_one (ds_set 9 gok0 sc_l_block.nd rfl (by first | exact Or.inl rfl | exact Or.inr rfl) (de_tup (da_cons (de_op or_mulX os_mulX (db_of (de_op or_add os_add (db_of de_int) (db_of (de_op or_fdiv os_fdiv (db_of (de_ix (db_var 5 (pv 5) (.inl (by rfl))) (db_of (de_op or_add os_add (db_of (de_op or_mulX os_mulX (db_of de_int) (db_var 4 (pv 4) (.inl (by rfl))))) (db_of de_int))) (fun _ _ => rfl))) (db_of de_int))))) (db_var 2 (pv 2) (.inl (by rfl)))) da_nil))))
  ds_nil)
  (ds_one (ds_app 6 gok0 rfl (pv 6) (de_tup (da_cons (de_op or_mulX os_mulX (db_of (de_op or_add os_add (db_of (de_ix (db_var 5 (pv 5) (.inl (by rfl))) (db_of (de_op or_add os_add (db_of (de_op or_mulX os_mulX (db_of de_int) (db_var 4 (pv 4) (.inl (by rfl))))) (db_of de_int))) (fun _ _ => rfl))) (db_of de_int))) (db_var 2 (pv 2) (.inl (by rfl)))) (da_cons (de_var 7 (pv 7) rfl) (da_cons (de_var 8 (pv 8) rfl) (da_cons (de_var 9 (pv 9) rfl) da_nil)))))))))))))))
  (ds_one (ds_ret gok0 rfl (de_tup (da_cons (de_op or_mulX os_mulX (db_of (de_op or_add os_add (db_of (de_ix (db_var 5 (pv 5) (.inl (by rfl))) (db_of de_int) (fun _ _ => rfl))) (db_of de_int))) (db_var 2 (pv 2) (.inl (by rfl)))) (da_cons (de_op or_mulX os_mulX (db_of (de_ix (db_var 5 (pv 5) (.inl (by rfl))) (db_of de_int) (fun _ _ => rfl))) (db_var 2 (pv 2) (.inl (by rfl)))) (da_cons (de_op or_mulX os_mulX (db_of (de_ix (db_var 5 (pv 5) (.inl (by rfl))) (db_of de_int) (fun _ _ => rfl))) (db_var 2 (pv 2) (.inl (by rfl)))) (da_cons (de_cmp (or_eq hr.units) os_eq (db_of (de_ix (db_var 5 (pv 5) (.inl (by rfl))) (db_of de_int) (fun _ _ => rfl))) (db_of de_int) (nomark _)) (da_cons (de_type call_tuple_of cs_tuple (by rfl) T.n_tuple (by decide +kernel) (dm_bor (db_var 6 (pv 6) (.inr (.inl (by trivial)))) dm_nil)) da_nil)))))))))))))
theorem ok_l_few (T : Txt K mg) : FnOk P w K mg base (L2.CX P w) 1 T.f_l_few T.fd_l_few ["_law_blocks"] (spD K T.cm [false] true F_l_few)   := dok (G' := []) (k := 0) T.F_l_few sc_l_few rfl (by decide) fun cdv A outer s H E hr =>
  (ds_cons (ds_set 1 gok0 sc_l_few.nd rfl (by first | exact Or.inl rfl | exact Or.inr rfl) de_int)
  (ds_cons (ds_setO 2 gok0 (show 2 < 7 by decide) sc_l_few.nd rfl (by first | exact Or.inl rfl | exact Or.inr rfl) (de_lst da_nil))
  (ds_cons (ds_for gok0 (passes_of rfl) rfl (di_list (de_var 0 (pv 0) rfl)) (dg_name 3 sc_l_few.nd rfl (by first | exact Or.inl rfl | exact Or.inr rfl))
  (ds_pubE (G' := [.v, .v, .o, .v, .o, .v, .v]) 4 (ds_cons (ds_setO 4 gok0 (show 4 < 7 by decide) sc_l_few.nd rfl (by first | exact Or.inl rfl | exact Or.inr rfl) (de_lst da_nil))
  (ds_cons (ds_for gok0 (passes_of rfl) rfl (di_tup (de_ix (db_var 3 (pv 3) (.inl (by rfl))) (db_of de_int) (fun _ _ => rfl))) (dg_name 5 sc_l_few.nd rfl (by first | exact Or.inl rfl | exact Or.inr rfl))
  (ds_cons (ds_set 6 gok0 sc_l_few.nd rfl (by first | exact Or.inl rfl | exact Or.inr rfl) (de_ix (db_var 5 (pv 5) (.inl (by rfl))) (db_of de_int) (fun _ _ => rfl)))
  (ds_cons (ds_if gok0 (dt_cmp or_gt os_ord (db_of (de_op or_add os_add (db_var 1 (pv 1) (.inl (by rfl))) (db_of (de_bltn call_len cs_len (by rfl) T.n_len (by decide +kernel) (dm_bor (db_var 6 (pv 6) (.inl (by rfl))) dm_nil))))) (db_of de_int) (nomark _))
  (ds_one (ds_set 6 gok0 sc_l_few.nd rfl (by first | exact Or.inl rfl | exact Or.inr rfl) (de_tup da_nil)))
  ds_nil)
  (ds_cons (ds_set 1 gok0 sc_l_few.nd rfl (by first | exact Or.inl rfl | exact Or.inr rfl) (de_op or_add os_add (db_var 1 (pv 1) (.inl (by rfl))) (db_of (de_bltn call_len cs_len (by rfl) T.n_len (by decide +kernel) (dm_bor (db_var 6 (pv 6) (.inl (by rfl))) dm_nil)))))
  (ds_one (ds_app 4 gok0 rfl (pv 4) (de_tup (da_cons (de_ix (db_var 5 (pv 5) (.inl (by rfl))) (db_of de_int) (fun _ _ => rfl)) (da_cons (de_ix (db_var 5 (pv 5) (.inl (by rfl))) (db_of de_int) (fun _ _ => rfl)) (da_cons (de_ix (db_var 5 (pv 5) (.inl (by rfl))) (db_of de_int) (fun _ _ => rfl)) (da_cons (de_var 6 (pv 6) rfl) da_nil)))))))))))
  (ds_one (ds_app 2 gok0 rfl (pv 2) (de_tup (da_cons (de_ix (db_var 3 (pv 3) (.inl (by rfl))) (db_of de_int) (fun _ _ => rfl)) (da_cons (de_ix (db_var 3 (pv 3) (.inl (by rfl))) (db_of de_int) (fun _ _ => rfl)) (da_cons (de_ix (db_var 3 (pv 3) (.inl (by rfl))) (db_of de_int) (fun _ _ => rfl)) (da_cons (de_ix (db_var 3 (pv 3) (.inl (by rfl))) (db_of de_int) (fun _ _ => rfl)) (da_cons (de_type call_tuple_of cs_tuple (by rfl) T.n_tuple (by decide +kernel) (dm_bor (db_var 4 (pv 4) (.inr (.inl (by trivial)))) dm_nil)) da_nil)))))))))) (.inl rfl)))
  (ds_one (ds_retI 2 rfl rfl (pv 2))))))
theorem ok_l_flat (T : Txt K mg) : FnOk P w K mg base (L2.CX P w) 1 T.f_l_flat T.fd_l_flat ["_law_blocks"] (spD K T.cm [false] false F_l_flat)   := dok (G' := []) (k := 0) T.F_l_flat sc_l_flat rfl (by decide) fun cdv A outer s H E hr =>
  (ds_cons (ds_setO 1 gok0 (show 1 < 5 by decide) sc_l_flat.nd rfl (by first | exact Or.inl rfl | exact Or.inr rfl) (de_lst da_nil))
  (ds_cons (ds_for gok0 (passes_of rfl) rfl (di_rng1 T.n_range (by rfl) (da_cons (de_bltn call_len cs_len (by rfl) T.n_len (by decide +kernel) (dm_bor (db_var 0 (pv 0) (.inl (by rfl))) dm_nil)) da_nil)) (dg_name 2 sc_l_flat.nd rfl (by first | exact Or.inl rfl | exact Or.inr rfl))
  (ds_cons (ds_set 3 gok0 sc_l_flat.nd rfl (by first | exact Or.inl rfl | exact Or.inr rfl) (de_bltn call_len cs_len (by rfl) T.n_len (by decide +kernel) (dm_bor (db_var 1 (pv 1) (.inr (.inl (by trivial)))) dm_nil)))
  (ds_one (ds_for gok0 (passes_of rfl) rfl (di_tup (de_ix (db_of (de_ix (db_var 0 (pv 0) (.inl (by rfl))) (db_var 2 (pv 2) (.inl (by rfl))) (fun _ _ => rfl))) (db_of de_int) (fun _ _ => rfl))) (dg_name 4 sc_l_flat.nd rfl (by first | exact Or.inl rfl | exact Or.inr rfl))
  (ds_one (ds_app 1 gok0 rfl (pv 1) (de_tup (da_cons (de_var 4 (pv 4) rfl) (da_cons (de_var 2 (pv 2) rfl) (da_cons (de_var 3 (pv 3) rfl) (da_cons (de_op or_add os_add (db_var 3 (pv 3) (.inl (by rfl))) (db_of (de_bltn call_len cs_len (by rfl) T.n_len (by decide +kernel) (dm_bor (db_of (de_ix (db_of (de_ix (db_var 0 (pv 0) (.inl (by rfl))) (db_var 2 (pv 2) (.inl (by rfl))) (fun _ _ => rfl))) (db_of de_int) (fun _ _ => rfl))) dm_nil)))) da_nil)))))))))))
  (ds_pub 1 (ds_one (ds_ret gok0 rfl (de_var 1 (pv 1) rfl))) (.inl rfl))))
theorem ok_l_width (T : Txt K mg) : FnOk P w K mg base (L2.CX P w) 1 T.f_l_width T.fd_l_width ["_law_blocks", "_law_flat_here", "_law_start", "_law_end"] (spD K T.cm [false, false, false, false] false F_l_width)   := dok (G' := []) (k := 0) T.F_l_width sc_l_width rfl (by decide) fun cdv A outer s H E hr =>
  (ds_cons (ds_set 4 gok0 sc_l_width.nd rfl (by first | exact Or.inl rfl | exact Or.inr rfl) de_int)
  (ds_cons (ds_for gok0 (passes_of rfl) rfl (di_rng2 T.n_range (by rfl) (da_cons (de_var 2 (pv 2) rfl) (da_cons (de_var 3 (pv 3) rfl) da_nil))) (dg_name 5 sc_l_width.nd rfl (by first | exact Or.inl rfl | exact Or.inr rfl))
  (ds_cons (ds_set 6 gok0 sc_l_width.nd rfl (by first | exact Or.inl rfl | exact Or.inr rfl) (de_ix (db_of (de_ix (db_var 1 (pv 1) (.inl (by rfl))) (db_var 5 (pv 5) (.inl (by rfl))) (fun _ _ => rfl))) (db_of de_int) (fun _ _ => rfl)))
  (ds_cons (ds_set 4 gok0 sc_l_width.nd rfl (by first | exact Or.inl rfl | exact Or.inr rfl) (de_op or_add os_add (db_var 4 (pv 4) (.inl (by rfl))) (db_of (de_ix (db_var 6 (pv 6) (.inl (by rfl))) (db_of de_int) (fun _ _ => rfl)))))
  (ds_one (ds_if gok0 (PW.pt (dw_and (dt_cmp or_lt os_ord (db_var 5 (pv 5) (.inl (by rfl))) (db_of (de_op op_sub os_sub (db_var 3 (pv 3) (.inl (by rfl))) (db_of de_int))) (nomark _)) (dw_and1 (dt_cmp (or_eq hr.units) os_eq (db_of (de_ix (db_of (de_ix (db_var 6 (pv 6) (.inl (by rfl))) (db_of de_int) (fun _ _ => rfl))) (db_of de_int) (fun _ _ => rfl))) (db_of (de_strL (by decide +kernel))) (nomark _)))))
  (ds_one (ds_set 4 gok0 sc_l_width.nd rfl (by first | exact Or.inl rfl | exact Or.inr rfl) (de_op or_add os_add (db_var 4 (pv 4) (.inl (by rfl))) (db_of (de_ix (db_of (de_ix (db_var 6 (pv 6) (.inl (by rfl))) (db_of de_int) (fun _ _ => rfl))) (db_of de_int) (fun _ _ => rfl))))))
  ds_nil)))))
  (ds_cons (ds_if gok0 (dt_cmp (or_eq hr.units) os_eq (db_of (de_ix (db_of (de_ix (db_of (de_ix (db_of (de_ix (db_var 1 (pv 1) (.inl (by rfl))) (db_of (de_op op_sub os_sub (db_var 3 (pv 3) (.inl (by rfl))) (db_of de_int))) (fun _ _ => rfl))) (db_of de_int) (fun _ _ => rfl))) (db_of de_int) (fun _ _ => rfl))) (db_of de_int) (fun _ _ => rfl))) (db_of (de_strL (by decide +kernel))) (nomark _))
  (ds_one (ds_set 4 gok0 sc_l_width.nd rfl (by first | exact Or.inl rfl | exact Or.inr rfl) (de_op or_add os_add (db_var 4 (pv 4) (.inl (by rfl))) (db_of (de_ix (db_of (de_ix (db_of (de_ix (db_of (de_ix (db_var 1 (pv 1) (.inl (by rfl))) (db_of (de_op op_sub os_sub (db_var 3 (pv 3) (.inl (by rfl))) (db_of de_int))) (fun _ _ => rfl))) (db_of de_int) (fun _ _ => rfl))) (db_of de_int) (fun _ _ => rfl))) (db_of de_int) (fun _ _ => rfl))))))
  ds_nil)
  (ds_cons (ds_if gok0 (dt_cmp (or_eq hr.units) os_eq (db_var 2 (pv 2) (.inl (by rfl))) (db_of (de_ix (db_of (de_ix (db_var 1 (pv 1) (.inl (by rfl))) (db_var 2 (pv 2) (.inl (by rfl))) (fun _ _ => rfl))) (db_of de_int) (fun _ _ => rfl))) (nomark _))
  (ds_one (ds_set 4 gok0 sc_l_width.nd rfl (by first | exact Or.inl rfl | exact Or.inr rfl) (de_op or_add os_add (db_var 4 (pv 4) (.inl (by rfl))) (db_of (de_ix (db_of (de_ix (db_var 0 (pv 0) (.inl (by rfl))) (db_of (de_ix (db_of (de_ix (db_var 1 (pv 1) (.inl (by rfl))) (db_var 2 (pv 2) (.inl (by rfl))) (fun _ _ => rfl))) (db_of de_int) (fun _ _ => rfl))) (fun _ _ => rfl))) (db_of de_int) (fun _ _ => rfl))))))
  ds_nil)
  (ds_one (ds_ret gok0 rfl (de_var 4 (pv 4) rfl)))))))
theorem ok_l_moves (T : Txt K mg) : FnOk P w K mg base (L2.CX P w) 2 T.f_l_moves T.fd_l_moves ["_law_blocks", "_law_flat_here", "_law_nums", "_law_state"] (spD K T.cm [false, false, false, false] true F_l_moves)   := dok (G' := []) (k := 1) T.F_l_moves sc_l_moves rfl (by decide) fun cdv A outer s H E hr =>
  (ds_cons (ds_asg gok0 (de_var 3 (pv 3) rfl) (dg_tup rfl (dg_cons (dg_name 4 sc_l_moves.nd rfl (by first | exact Or.inl rfl | exact Or.inr rfl)) (dg_cons (dg_name 5 sc_l_moves.nd rfl (by first | exact Or.inl rfl | exact Or.inr rfl)) (dg_cons (dg_name 6 sc_l_moves.nd rfl (by first | exact Or.inl rfl | exact Or.inr rfl)) (dg_cons (dg_name 7 sc_l_moves.nd rfl (by first | exact Or.inl rfl | exact Or.inr rfl)) dg_nil))))))
  (ds_cons (ds_setO 8 gok0 (show 8 < 20 by decide) sc_l_moves.nd rfl (by first | exact Or.inl rfl | exact Or.inr rfl) (de_lst da_nil))
  (ds_cons (ds_if gok0 (dt_cmp (or_eq hr.units) os_eq (db_var 4 (pv 4) (.inl (by rfl))) (db_of (de_bltn call_len cs_len (by rfl) T.n_len (by decide +kernel) (dm_bor (db_var 1 (pv 1) (.inl (by rfl))) dm_nil))) (nomark _))
  (ds_one (ds_retI 8 rfl rfl (pv 8)))
  ds_nil)
  (ds_cons (ds_par 9 10 gok0 rfl sc_l_moves.nd rfl rfl (by decide) rfl rfl (de_ix (db_of (de_ix (db_var 1 (pv 1) (.inl (by rfl))) (db_var 4 (pv 4) (.inl (by rfl))) (fun _ _ => rfl))) (db_of de_int) (fun _ _ => rfl)) (de_ix (db_of (de_ix (db_var 1 (pv 1) (.inl (by rfl))) (db_var 4 (pv 4) (.inl (by rfl))) (fun _ _ => rfl))) (db_of de_int) (fun _ _ => rfl)) (by rfl))
  (ds_cons (ds_set 11 gok0 sc_l_moves.nd rfl (by first | exact Or.inl rfl | exact Or.inr rfl) (de_pub (de_lst da_nil)))
  (ds_cons (ds_set 12 gok0 sc_l_moves.nd rfl (by first | exact Or.inl rfl | exact Or.inr rfl) de_int)
  (ds_cons (ds_for gok0 (passes_of rfl) rfl (di_rng1 T.n_range (by rfl) (da_cons (de_bltn call_len cs_len (by rfl) T.n_len (by decide +kernel) (dm_bor (db_var 1 (pv 1) (.inl (by rfl))) dm_nil)) da_nil)) (dg_name 13 sc_l_moves.nd rfl (by first | exact Or.inl rfl | exact Or.inr rfl))
  (ds_cons (ds_if gok0 (dt_cmp or_lt os_ord (db_var 13 (pv 13) (.inl (by rfl))) (db_var 4 (pv 4) (.inl (by rfl))) (nomark _))
  (ds_one (ds_set 12 gok0 sc_l_moves.nd rfl (by first | exact Or.inl rfl | exact Or.inr rfl) (de_op or_add os_add (db_var 12 (pv 12) (.inl (by rfl))) (db_of (de_bltn call_len cs_len (by rfl) T.n_len (by decide +kernel) (dm_bor (db_of (de_ix (db_of (de_ix (db_of (de_ix (db_var 1 (pv 1) (.inl (by rfl))) (db_var 13 (pv 13) (.inl (by rfl))) (fun _ _ => rfl))) (db_of de_int) (fun _ _ => rfl))) (db_of de_int) (fun _ _ => rfl))) dm_nil))))))
  ds_nil)
  (ds_one (ds_set 11 gok0 sc_l_moves.nd rfl (by first | exact Or.inl rfl | exact Or.inr rfl) (de_op or_add os_add (db_var 11 (pv 11) (.inl (by rfl))) (db_own (de_type call_list_of cs_list (by rfl) T.n_list (by decide +kernel) (dm_bor (db_of (de_ix (db_of (de_ix (db_of (de_ix (db_var 1 (pv 1) (.inl (by rfl))) (db_var 13 (pv 13) (.inl (by rfl))) (fun _ _ => rfl))) (db_of de_int) (fun _ _ => rfl))) (db_of de_int) (fun _ _ => rfl))) dm_nil))))))))
  (ds_cons (ds_set 14 gok0 sc_l_moves.nd rfl (by first | exact Or.inl rfl | exact Or.inr rfl) (de_ix (db_var 0 (pv 0) (.inl (by rfl))) (db_of (de_ix (db_of (de_ix (db_var 1 (pv 1) (.inl (by rfl))) (db_var 4 (pv 4) (.inl (by rfl))) (fun _ _ => rfl))) (db_of de_int) (fun _ _ => rfl))) (fun _ _ => rfl)))
  (ds_cons (ds_for gok0 (passes_of rfl) rfl (di_rng2 T.n_range (by rfl) (da_cons (de_op or_add os_add (db_var 4 (pv 4) (.inl (by rfl))) (db_of de_int)) (da_cons (de_op or_add os_add (db_var 10 (pv 10) (.inl (by rfl))) (db_of de_int)) da_nil))) (dg_name 15 sc_l_moves.nd rfl (by first | exact Or.inl rfl | exact Or.inr rfl))
  (ds_cons (ds_if gok0 (PW.pt (dw_and (dt_cmp or_gt os_ord (db_var 15 (pv 15) (.inl (by rfl))) (db_of (de_op or_add os_add (db_var 4 (pv 4) (.inl (by rfl))) (db_of de_int))) (nomark _)) (dw_and1 (dt_cmp or_gt os_ord (db_of (de_callV (ok_l_width T) (takes_of rfl rfl rfl rfl) (hr.mono (by decide)) (by rfl) T.g_l_width T.F_l_width.kp T.b_l_width (dm_val (de_var 0 (pv 0) rfl) (dm_val (de_var 1 (pv 1) rfl) (dm_val (de_var 4 (pv 4) rfl) (dm_val (de_var 15 (pv 15) rfl) dm_nil)))))) (db_of (de_ix (db_var 2 (pv 2) (.inl (by rfl))) (db_of de_int) (fun _ _ => rfl))) (nomark _)))))
  (ds_one ds_cont)
  ds_nil)
  (ds_cons (ds_set 16 gok0 sc_l_moves.nd rfl (by first | exact Or.inl rfl | exact Or.inr rfl) (de_ix (db_var 14 (pv 14) (.inl (by rfl))) (db_of de_int) (fun _ _ => rfl)))
  (ds_cons (ds_if gok0 (dt_cmp (or_eq hr.units) os_eq (db_var 4 (pv 4) (.inl (by rfl))) (db_var 9 (pv 9) (.inl (by rfl))) (nomark _))
  (ds_one (ds_set 16 gok0 sc_l_moves.nd rfl (by first | exact Or.inl rfl | exact Or.inr rfl) (de_op or_add os_add (db_var 16 (pv 16) (.inl (by rfl))) (db_of (de_ix (db_var 14 (pv 14) (.inl (by rfl))) (db_of de_int) (fun _ _ => rfl))))))
  ds_nil)
  (ds_cons (ds_for gok0 (passes_of rfl) rfl (di_rng2 T.n_range (by rfl) (da_cons (de_var 4 (pv 4) rfl) (da_cons (de_var 15 (pv 15) rfl) da_nil))) (dg_name 13 sc_l_moves.nd rfl (by first | exact Or.inl rfl | exact Or.inr rfl))
  (ds_one (ds_set 16 gok0 sc_l_moves.nd rfl (by first | exact Or.inl rfl | exact Or.inr rfl) (de_op or_add os_add (db_var 16 (pv 16) (.inl (by rfl))) (db_of (de_bltn (cr_sum rfl) cs_sum (by rfl) T.n_sum (by decide +kernel) (dm_bor (db_own (de_type call_list_of cs_list (by rfl) T.n_list (by decide +kernel) (dm_bor (db_of (de_ix (db_of (de_ix (db_of (de_ix (db_var 1 (pv 1) (.inl (by rfl))) (db_var 13 (pv 13) (.inl (by rfl))) (fun _ _ => rfl))) (db_of de_int) (fun _ _ => rfl))) (db_of de_int) (fun _ _ => rfl))) dm_nil))) dm_nil)))))))
  (ds_cons (ds_set 17 gok0 sc_l_moves.nd rfl (by first | exact Or.inl rfl | exact Or.inr rfl) (de_and (de_cmp (or_eq hr.units) os_eq (db_var 4 (pv 4) (.inl (by rfl))) (db_var 9 (pv 9) (.inl (by rfl))) (nomark _)) (de_one (de_cmp or_lt os_ord (db_var 15 (pv 15) (.inl (by rfl))) (db_var 10 (pv 10) (.inl (by rfl))) (nomark _)))))
  (ds_cons (ds_if gok0 (dt_cmp (or_eq hr.units) os_eq (db_var 4 (pv 4) (.inl (by rfl))) (db_of de_int) (nomark _))
  (ds_cons (ds_app 8 gok0 rfl (pv 8) (de_tup (da_cons (de_tup (da_cons (de_var 15 (pv 15) rfl) (da_cons de_int da_nil))) (da_cons (de_tup (da_cons (de_var 15 (pv 15) rfl) (da_cons (de_var 16 (pv 16) rfl) (da_cons de_int (da_cons (de_var 17 (pv 17) rfl) da_nil))))) da_nil))))
  (ds_one ds_cont))
  ds_nil)
  (ds_cons (ds_if gok0 (dt_cmp or_le os_ord (db_of (de_op or_add os_add (db_var 5 (pv 5) (.inl (by rfl))) (db_var 16 (pv 16) (.inl (by rfl))))) (db_of (de_ix (db_var 2 (pv 2) (.inl (by rfl))) (db_of de_int) (fun _ _ => rfl))) (nomark _))
  (ds_one (ds_app 8 gok0 rfl (pv 8) (de_tup (da_cons (de_tup (da_cons (de_var 15 (pv 15) rfl) (da_cons de_non da_nil))) (da_cons (de_tup (da_cons (de_var 15 (pv 15) rfl) (da_cons (de_op or_add os_add (db_var 5 (pv 5) (.inl (by rfl))) (db_var 16 (pv 16) (.inl (by rfl)))) (da_cons (de_var 6 (pv 6) rfl) (da_cons (de_var 17 (pv 17) rfl) da_nil))))) da_nil)))))
  ds_nil)
  (ds_one (ds_for gok0 (passes_of rfl) rfl (di_rng1 T.n_range (by rfl) (da_cons (de_op or_add os_add (db_of (de_op op_sub os_sub (db_var 12 (pv 12) (.inl (by rfl))) (db_var 6 (pv 6) (.inl (by rfl))))) (db_of de_int)) da_nil)) (dg_name 18 sc_l_moves.nd rfl (by first | exact Or.inl rfl | exact Or.inr rfl))
  (ds_cons (ds_set 19 gok0 sc_l_moves.nd rfl (by first | exact Or.inl rfl | exact Or.inr rfl) (de_bltn (cr_sum rfl) cs_sum (by rfl) T.n_sum (by decide +kernel) (dm_bor (db_of (de_sl (db_var 11 (pv 11) (.inl (by rfl))) (dp_some (de_var 6 (pv 6) rfl)) (dp_some (de_op or_add os_add (db_var 6 (pv 6) (.inl (by rfl))) (db_var 18 (pv 18) (.inl (by rfl))))))) dm_nil)))
  (ds_one (ds_if gok0 (PW.pt (dw_or (dt_cmp (or_eq hr.units) os_eq (db_var 18 (pv 18) (.inl (by rfl))) (db_of de_int) (nomark _)) (dw_or1 (dt_cmp or_le os_ord (db_of (de_op or_add os_add (db_var 19 (pv 19) (.inl (by rfl))) (db_var 16 (pv 16) (.inl (by rfl))))) (db_of (de_ix (db_var 2 (pv 2) (.inl (by rfl))) (db_of de_int) (fun _ _ => rfl))) (nomark _)))))
  (ds_one (ds_app 8 gok0 rfl (pv 8) (de_tup (da_cons (de_tup (da_cons (de_var 15 (pv 15) rfl) (da_cons (de_var 18 (pv 18) rfl) da_nil))) (da_cons (de_tup (da_cons (de_var 15 (pv 15) rfl) (da_cons (de_op or_add os_add (db_var 19 (pv 19) (.inl (by rfl))) (db_var 16 (pv 16) (.inl (by rfl)))) (da_cons (de_op or_add os_add (db_var 6 (pv 6) (.inl (by rfl))) (db_var 18 (pv 18) (.inl (by rfl)))) (da_cons (de_var 17 (pv 17) rfl) da_nil))))) da_nil)))))
  ds_nil)))))))))))))
  (ds_one (ds_retI 8 rfl rfl (pv 8))))))))))))
theorem ok_l_walk (T : Txt K mg) : FnOk P w K mg base (L2.CX P w) 3 T.f_l_walk T.fd_l_walk ["_law_blocks", "_law_flat_here", "_law_nums", "_law_picks"] (spD K T.cm [false, false, false, false] true F_l_walk)   := dok (G' := []) (k := 2) T.F_l_walk sc_l_walk rfl (by decide) fun cdv A outer s H E hr =>
  (ds_cons (ds_parVO 4 5 gok0 rfl sc_l_walk.nd rfl rfl (by decide) (by decide) rfl rfl (de_tup (da_cons de_int (da_cons de_int (da_cons de_int (da_cons de_bl da_nil))))) (de_lst da_nil) (by rfl))
  (ds_cons (ds_for gok0 (passes_of rfl) rfl (di_rng1 T.n_range (by rfl) (da_cons (de_bltn call_len cs_len (by rfl) T.n_len (by decide +kernel) (dm_bor (db_var 1 (pv 1) (.inl (by rfl))) dm_nil)) da_nil)) (dg_name 6 sc_l_walk.nd rfl (by first | exact Or.inl rfl | exact Or.inr rfl))
  (ds_cons (ds_set 7 gok0 sc_l_walk.nd rfl (by first | exact Or.inl rfl | exact Or.inr rfl) (de_pub (de_callO (ok_l_moves T) (takes_of rfl rfl rfl rfl) (hr.mono (by decide)) (by rfl) T.g_l_moves T.F_l_moves.kp T.b_l_moves (dm_val (de_var 0 (pv 0) rfl) (dm_val (de_var 1 (pv 1) rfl) (dm_val (de_var 2 (pv 2) rfl) (dm_val (de_var 4 (pv 4) rfl) dm_nil)))))))
  (ds_one (ds_if gok0 (dt_cmp or_gt os_ord (db_of (de_bltn call_len cs_len (by rfl) T.n_len (by decide +kernel) (dm_bor (db_var 7 (pv 7) (.inl (by rfl))) dm_nil))) (db_of de_int) (nomark _))
  (ds_cons (ds_asg gok0 (de_ix (db_var 7 (pv 7) (.inl (by rfl))) (db_of (de_op op_mod os_mod (db_of (de_type cr_int cs_int (by rfl) T.n_int (by decide +kernel) (dm_bor (db_of (de_ix (db_var 3 (pv 3) (.inl (by rfl))) (db_var 6 (pv 6) (.inl (by rfl))) (fun _ _ => rfl))) dm_nil))) (db_of (de_bltn call_len cs_len (by rfl) T.n_len (by decide +kernel) (dm_bor (db_var 7 (pv 7) (.inl (by rfl))) dm_nil))))) (fun _ _ => rfl)) (dg_tup rfl (dg_cons (dg_name 8 sc_l_walk.nd rfl (by first | exact Or.inl rfl | exact Or.inr rfl)) (dg_cons (dg_name 9 sc_l_walk.nd rfl (by first | exact Or.inl rfl | exact Or.inr rfl)) dg_nil))))
  (ds_cons (ds_app 5 gok0 rfl (pv 5) (de_tup (da_cons (de_var 4 (pv 4) rfl) (da_cons (de_var 8 (pv 8) rfl) (da_cons (de_var 9 (pv 9) rfl) da_nil)))))
  (ds_one (ds_set 4 gok0 sc_l_walk.nd rfl (by first | exact Or.inl rfl | exact Or.inr rfl) (de_var 9 (pv 9) rfl)))))
  ds_nil))))
  (ds_one (ds_retI 5 rfl rfl (pv 5)))))
theorem ok_l_forbidden (T : Txt K mg) : FnOk P w K mg base (L2.CX P w) 2 T.f_l_forbidden T.fd_l_forbidden ["_law_blocks", "_law_flat_here", "_law_nums", "_law_promise", "_law_state", "_law_step", "_law_after"] (spD K T.cm [false, false, false, false, false, false, false] false F_l_forbidden)   := dok (G' := []) (k := 1) T.F_l_forbidden sc_l_forbidden rfl (by decide) fun cdv A outer s H E hr =>
  (ds_cons (ds_par3 7 8 9 gok0 rfl sc_l_forbidden.nd rfl rfl rfl (by decide) (by decide) (by decide) rfl rfl rfl (de_ix (db_var 4 (pv 4) (.inl (by rfl))) (db_of de_int) (fun _ _ => rfl)) (de_ix (db_of (de_ix (db_var 1 (pv 1) (.inl (by rfl))) (db_of (de_ix (db_var 4 (pv 4) (.inl (by rfl))) (db_of de_int) (fun _ _ => rfl))) (fun _ _ => rfl))) (db_of de_int) (fun _ _ => rfl)) (de_ix (db_of (de_ix (db_var 1 (pv 1) (.inl (by rfl))) (db_of (de_ix (db_var 4 (pv 4) (.inl (by rfl))) (db_of de_int) (fun _ _ => rfl))) (fun _ _ => rfl))) (db_of de_int) (fun _ _ => rfl)) (by rfl))
  (ds_cons (ds_set 10 gok0 sc_l_forbidden.nd rfl (by first | exact Or.inl rfl | exact Or.inr rfl) (de_callV (ok_l_width T) (takes_of rfl rfl rfl rfl) (hr.mono (by decide)) (by rfl) T.g_l_width T.F_l_width.kp T.b_l_width (dm_val (de_var 0 (pv 0) rfl) (dm_val (de_var 1 (pv 1) rfl) (dm_val (de_var 7 (pv 7) rfl) (dm_val (de_ix (db_var 5 (pv 5) (.inl (by rfl))) (db_of de_int) (fun _ _ => rfl)) dm_nil))))))
  (ds_cons (ds_if gok0 (dt_cmp (or_eq hr.units) os_eq (db_of (de_ix (db_var 3 (pv 3) (.inl (by rfl))) (db_of de_int) (fun _ _ => rfl))) (db_of (de_strL (by decide +kernel))) (nomark _))
  (ds_one (ds_ret gok0 rfl (de_and (de_cmp (or_ne hr.units) os_ne (db_of (de_ix (db_var 5 (pv 5) (.inl (by rfl))) (db_of de_int) (fun _ _ => rfl))) (db_var 9 (pv 9) (.inl (by rfl))) (nomark _)) (de_one (de_cmp or_gt os_ord (db_of (de_op op_sub os_sub (db_of (de_ix (db_var 2 (pv 2) (.inl (by rfl))) (db_of de_int) (fun _ _ => rfl))) (db_var 10 (pv 10) (.inl (by rfl))))) (db_of (de_ix (db_var 3 (pv 3) (.inl (by rfl))) (db_of de_int) (fun _ _ => rfl))) (nomark _))))))
  ds_nil)
  (ds_cons (ds_if gok0 (dt_cmp (or_eq hr.units) os_eq (db_of (de_ix (db_var 3 (pv 3) (.inl (by rfl))) (db_of de_int) (fun _ _ => rfl))) (db_of (de_strL (by decide +kernel))) (nomark _))
  (ds_one (ds_ret gok0 rfl (de_or (de_cmp or_gt os_ord (db_var 10 (pv 10) (.inl (by rfl))) (db_of (de_ix (db_var 2 (pv 2) (.inl (by rfl))) (db_of de_int) (fun _ _ => rfl))) (nomark _)) (de_one (de_cmp or_gt os_ord (db_of (de_ix (db_var 6 (pv 6) (.inl (by rfl))) (db_of de_int) (fun _ _ => rfl))) (db_of (de_ix (db_var 2 (pv 2) (.inl (by rfl))) (db_of de_int) (fun _ _ => rfl))) (nomark _))))))
  ds_nil)
  (ds_cons (ds_if gok0 (PW.pt (dw_or (dt_cmp (or_eq hr.units) os_eq (db_var 7 (pv 7) (.inl (by rfl))) (db_of de_int) (nomark _)) (dw_or1 (dt_cmp op_isN os_is (db_of (de_ix (db_var 5 (pv 5) (.inl (by rfl))) (db_of de_int) (fun _ _ => rfl))) (db_of de_non) (nomark _)))))
  (ds_one (ds_ret gok0 rfl de_bl))
  ds_nil)
  (ds_cons (ds_if gok0 (dt_cmp (or_eq hr.units) os_eq (db_of (de_ix (db_var 3 (pv 3) (.inl (by rfl))) (db_of de_int) (fun _ _ => rfl))) (db_of (de_strL (by decide +kernel))) (nomark _))
  (ds_one (ds_ret gok0 rfl (de_and (de_cmp (or_eq hr.units) os_eq (db_var 7 (pv 7) (.inl (by rfl))) (db_var 8 (pv 8) (.inl (by rfl))) (nomark _)) (de_one (de_ix (db_of (de_ix (db_var 0 (pv 0) (.inl (by rfl))) (db_of (de_ix (db_of (de_ix (db_var 1 (pv 1) (.inl (by rfl))) (db_of (de_op op_sub os_sub (db_var 7 (pv 7) (.inl (by rfl))) (db_of de_int))) (fun _ _ => rfl))) (db_of de_int) (fun _ _ => rfl))) (fun _ _ => rfl))) (db_of de_int) (fun _ _ => rfl))))))
  ds_nil)
  (ds_cons (ds_if gok0 (dt_cmp (or_eq hr.units) os_eq (db_of (de_ix (db_var 3 (pv 3) (.inl (by rfl))) (db_of de_int) (fun _ _ => rfl))) (db_of (de_strL (by decide +kernel))) (nomark _))
  (ds_one (ds_ret gok0 rfl (de_ix (db_var 4 (pv 4) (.inl (by rfl))) (db_of de_int) (fun _ _ => rfl))))
  ds_nil)
  (ds_cons (ds_if gok0 (dt_cmp (or_eq hr.units) os_eq (db_of (de_ix (db_var 3 (pv 3) (.inl (by rfl))) (db_of de_int) (fun _ _ => rfl))) (db_of (de_strL (by decide +kernel))) (nomark _))
  (ds_one (ds_ret gok0 rfl (de_and (de_cmp (or_ne hr.units) os_ne (db_var 7 (pv 7) (.inl (by rfl))) (db_var 8 (pv 8) (.inl (by rfl))) (nomark _)) (de_one (de_cmp (or_eq hr.units) os_eq (db_of (de_ix (db_var 5 (pv 5) (.inl (by rfl))) (db_of de_int) (fun _ _ => rfl))) (db_var 9 (pv 9) (.inl (by rfl))) (nomark _))))))
  ds_nil)
  (ds_one (ds_ret gok0 rfl (de_cmp or_gt os_ord (db_of (de_op op_sub os_sub (db_of (de_ix (db_var 2 (pv 2) (.inl (by rfl))) (db_of de_int) (fun _ _ => rfl))) (db_of (de_ix (db_var 4 (pv 4) (.inl (by rfl))) (db_of de_int) (fun _ _ => rfl))))) (db_of (de_ix (db_var 3 (pv 3) (.inl (by rfl))) (db_of de_int) (fun _ _ => rfl))) (nomark _))))))))))))
theorem ok_l_first (T : Txt K mg) : FnOk P w K mg base (L2.CX P w) 3 T.f_l_first T.fd_l_first ["_law_blocks", "_law_flat_here", "_law_nums", "_law_promise", "_law_made"] (spD K T.cm [false, false, false, false, false] false F_l_first)   := dok (G' := []) (k := 2) T.F_l_first sc_l_first rfl (by decide) fun cdv A outer s H E hr =>
  (ds_cons (ds_for gok0 (passes_of rfl) rfl (di_rng1 T.n_range (by rfl) (da_cons (de_bltn call_len cs_len (by rfl) T.n_len (by decide +kernel) (dm_bor (db_var 4 (pv 4) (.inl (by rfl))) dm_nil)) da_nil)) (dg_name 5 sc_l_first.nd rfl (by first | exact Or.inl rfl | exact Or.inr rfl))
  (ds_one (ds_if gok0 (dt_val (de_callV (ok_l_forbidden T) (takes_of rfl rfl rfl rfl) (hr.mono (by decide)) (by rfl) T.g_l_forbidden T.F_l_forbidden.kp T.b_l_forbidden (dm_val (de_var 0 (pv 0) rfl) (dm_val (de_var 1 (pv 1) rfl) (dm_val (de_var 2 (pv 2) rfl) (dm_val (de_var 3 (pv 3) rfl) (dm_val (de_ix (db_of (de_ix (db_var 4 (pv 4) (.inl (by rfl))) (db_var 5 (pv 5) (.inl (by rfl))) (fun _ _ => rfl))) (db_of de_int) (fun _ _ => rfl)) (dm_val (de_ix (db_of (de_ix (db_var 4 (pv 4) (.inl (by rfl))) (db_var 5 (pv 5) (.inl (by rfl))) (fun _ _ => rfl))) (db_of de_int) (fun _ _ => rfl)) (dm_val (de_ix (db_of (de_ix (db_var 4 (pv 4) (.inl (by rfl))) (db_var 5 (pv 5) (.inl (by rfl))) (fun _ _ => rfl))) (db_of de_int) (fun _ _ => rfl)) dm_nil)))))))))
  (ds_one (ds_ret gok0 rfl (de_var 5 (pv 5) rfl)))
  ds_nil)))
  (ds_one (ds_ret gok0 rfl de_non)))
theorem ok_l_refused (T : Txt K mg) : FnOk P w K mg base (L2.CX P w) 14 T.f_l_refused T.fd_l_refused ["_law_galley", "_law_book_here", "_law_laying", "_law_promise", "_law_index"] (spD K T.cm [true, false, false, false, false] false F_l_refused)   := dok (G' := []) (k := 13) T.F_l_refused sc_l_refused rfl (by decide) fun cdv A outer s H E hr =>
  (ds_cons (ds_try (isM := isM_BadLaying) (Gs := [.b, .v, .v, .v, .v, .v]) gok0 rfl rfl sc_l_refused.nd rfl rfl ⟨by rfl, by decide, .inl T.g_BadLaying⟩ (takes_of rfl rfl rfl rfl) (by decide) T.exm_BadLaying (fun W pn xe tk po => (ds_one (ds_expr gokT (de_callV (ok_broken_at T) tk (hr.mono (by decide)) (by rfl) T.g_broken_at T.F_broken_at.kp T.b_broken_at (dm_bor (db_var 0 (pv 0) (.inr (.inr (by rfl)))) (dm_val (de_var 1 (pv 1) rfl) (dm_val (de_var 2 (pv 2) rfl) (dm_val (de_var 3 (pv 3) rfl) dm_nil))))))))
  (fun a C dd oe pn hin hz hf => (ds_one (ds_ret gokC rfl (de_and (de_isX (v := .ref T.a_LaidError) (cv := .ref T.a_LaidError) (isM := isM_LaidError) rfl (T.xc_of_BadLaying hin) hz hf (fun _ h => h) (fun n b h1 h2 => T.isi_LaidError n _ b h1 h2) T.n_isinstance (by rfl) (pv 5) (pe_glob (by rfl) T.g_LaidError rfl)) (de_and (de_callW (okW_l_number T) takes0 (roomH_mark hr (by decide)) ⟨_, List.mem_cons_self⟩ (by rfl) T.g_l_number T.F_l_number.kp T.b_l_number (dm_val (de_xf (T.xf_of_BadLaying hin) (T.no_of_BadLaying_step hin) rfl hz hf (pv 5)) dm_nil)) (de_one (de_cmp (or_eq hr.units) os_eq (db_of (de_xf (T.xf_of_BadLaying hin) (T.no_of_BadLaying_step hin) rfl hz hf (pv 5))) (db_var 4 (pv 4) (.inl (by rfl))) (nomark _)))))))) rfl rfl)
  (ds_one (ds_ret gok0 rfl de_bl)))
theorem ok_l_spoilt (T : Txt K mg) : FnOk P w K mg base (L2.CX P w) 1 T.f_l_spoilt T.fd_l_spoilt ["_law_steps", "_law_many", "_law_way", "_law_at"] (spD K T.cm [false, false, false, false] false F_l_spoilt)   := dok (G' := []) (k := 0) T.F_l_spoilt sc_l_spoilt rfl (by decide) fun cdv A outer s H E hr =>
  (ds_cons (ds_if gok0 (dt_cmp (or_eq hr.units) os_eq (db_var 2 (pv 2) (.inl (by rfl))) (db_of de_int) (nomark _))
  (ds_one (ds_ret gok0 rfl (de_tup (da_cons (de_op or_add os_add (db_of (de_op or_add os_add (db_of (de_sl (db_var 0 (pv 0) (.inl (by rfl))) dp_none (dp_some (de_var 3 (pv 3) rfl)))) (db_of (de_tup (da_cons (de_tup (da_cons de_int (da_cons de_non da_nil))) da_nil))))) (db_of (de_sl (db_var 0 (pv 0) (.inl (by rfl))) (dp_some (de_op or_add os_add (db_var 3 (pv 3) (.inl (by rfl))) (db_of de_int))) dp_none))) (da_cons (de_var 3 (pv 3) rfl) da_nil)))))
  ds_nil)
  (ds_cons (ds_if gok0 (dt_cmp (or_eq hr.units) os_eq (db_var 2 (pv 2) (.inl (by rfl))) (db_of de_int) (nomark _))
  (ds_one (ds_ret gok0 rfl (de_tup (da_cons (de_op or_add os_add (db_of (de_op or_add os_add (db_of (de_sl (db_var 0 (pv 0) (.inl (by rfl))) dp_none (dp_some (de_var 3 (pv 3) rfl)))) (db_of (de_tup (da_cons (de_tup (da_cons (de_ix (db_of (de_ix (db_var 0 (pv 0) (.inl (by rfl))) (db_var 3 (pv 3) (.inl (by rfl))) (fun _ _ => rfl))) (db_of de_int) (fun _ _ => rfl)) (da_cons de_int da_nil))) da_nil))))) (db_of (de_sl (db_var 0 (pv 0) (.inl (by rfl))) (dp_some (de_op or_add os_add (db_var 3 (pv 3) (.inl (by rfl))) (db_of de_int))) dp_none))) (da_cons (de_var 3 (pv 3) rfl) da_nil)))))
  ds_nil)
  (ds_cons (ds_if gok0 (dt_cmp (or_eq hr.units) os_eq (db_var 2 (pv 2) (.inl (by rfl))) (db_of de_int) (nomark _))
  (ds_one (ds_ret gok0 rfl (de_tup (da_cons (de_op or_add os_add (db_var 0 (pv 0) (.inl (by rfl))) (db_of (de_tup (da_cons (de_tup (da_cons (de_var 1 (pv 1) rfl) (da_cons de_non da_nil))) da_nil)))) (da_cons (de_bltn call_len cs_len (by rfl) T.n_len (by decide +kernel) (dm_bor (db_var 0 (pv 0) (.inl (by rfl))) dm_nil)) da_nil)))))
  ds_nil)
  (ds_one (ds_ret gok0 rfl (de_tup (da_cons (de_op or_add os_add (db_of (de_tup (da_cons (de_tup (da_cons (de_ix (db_of (de_ix (db_var 0 (pv 0) (.inl (by rfl))) (db_of de_int) (fun _ _ => rfl))) (db_of de_int) (fun _ _ => rfl)) (da_cons de_non da_nil))) da_nil))) (db_of (de_sl (db_var 0 (pv 0) (.inl (by rfl))) (dp_some de_int) dp_none))) (da_cons de_int da_nil))))))))
theorem ok_l_book (T : Txt K mg) : FnOk P w K mg base (L2.CX P w) 5 T.f_l_book T.fd_l_book ["_law_nums"] (spD K T.cm [false] false F_l_book)   := dok (G' := []) (k := 4) T.F_l_book sc_l_book rfl (by decide) fun cdv A outer s H E hr =>
  (ds_one (ds_ret gok0 rfl (de_pub (de_makeKD (ms1 := [false, false]) (ms2 := [false, false, false, false, false, false]) (ms3 := [false, false, false]) T.mk_Book (ok_Book_init T) (takes_of rfl rfl rfl rfl) (hr.mono (by decide)) (by rfl) T.g_Book T.kb_Book_init (fun S H => ⟨.int _, .int _, .bl _, trivial⟩) (dm_val (de_ix (db_var 0 (pv 0) (.inl (by rfl))) (db_of de_int) (fun _ _ => rfl)) (dm_val (de_ix (db_var 0 (pv 0) (.inl (by rfl))) (db_of de_int) (fun _ _ => rfl)) dm_nil)) (dk_val (de_ix (db_var 0 (pv 0) (.inl (by rfl))) (db_of de_int) (fun _ _ => rfl)) (dk_val (de_ix (db_var 0 (pv 0) (.inl (by rfl))) (db_of de_int) (fun _ _ => rfl)) (dk_val (de_ix (db_var 0 (pv 0) (.inl (by rfl))) (db_of de_int) (fun _ _ => rfl)) (dk_val (de_ix (db_var 0 (pv 0) (.inl (by rfl))) (db_of de_int) (fun _ _ => rfl)) (dk_val (de_ix (db_var 0 (pv 0) (.inl (by rfl))) (db_of de_int) (fun _ _ => rfl)) (dk_val (de_ix (db_var 0 (pv 0) (.inl (by rfl))) (db_of de_int) (fun _ _ => rfl)) dk_nil))))))))))
theorem ok_law (T : Txt K mg) : FnOk P w K mg base (L2.CX P w) 15 T.f_law T.fd_law ["_law_script"] (spD K T.cm [false] false F_law)   := dok (G' := []) (k := 14) T.F_law sc_law rfl (by decide) fun cdv A outer s H E hr =>
  (ds_cons (ds_set 1 gok0 sc_law.nd rfl (by first | exact Or.inl rfl | exact Or.inr rfl) (de_callV (ok_l_row T) (takes_of rfl rfl rfl rfl) (hr.mono (by decide)) (by rfl) T.g_l_row T.F_l_row.kp T.b_l_row (dm_val (de_callV (ok_l_cell T) (takes_of rfl rfl rfl rfl) (hr.mono (by decide)) (by rfl) T.g_l_cell T.F_l_cell.kp T.b_l_cell (dm_val (de_var 0 (pv 0) rfl) (dm_val de_int dm_nil))) (dm_val (de_pub (de_lst (da_cons de_int (da_cons de_int (da_cons de_int (da_cons de_int (da_cons de_int (da_cons de_int (da_cons de_int (da_cons de_int (da_cons de_int da_nil))))))))))) dm_nil))))
  (ds_cons (ds_set 2 gok0 sc_law.nd rfl (by first | exact Or.inl rfl | exact Or.inr rfl) (de_ix (db_own (de_lst (da_cons de_int (da_cons de_int (da_cons de_int (da_cons de_int da_nil)))))) (db_of (de_ix (db_var 1 (pv 1) (.inl (by rfl))) (db_of de_int) (fun _ _ => rfl))) (fun _ _ => rfl)))
  (ds_cons (ds_setO 3 gok0 (show 3 < 17 by decide) sc_law.nd rfl (by first | exact Or.inl rfl | exact Or.inr rfl) (de_lst (da_cons (de_callV (ok_l_block T) (takes_of rfl rfl rfl rfl) (hr.mono (by decide)) (by rfl) T.g_l_block T.F_l_block.kp T.b_l_block (dm_val (de_callV (ok_l_cell T) (takes_of rfl rfl rfl rfl) (hr.mono (by decide)) (by rfl) T.g_l_cell T.F_l_cell.kp T.b_l_cell (dm_val (de_var 0 (pv 0) rfl) (dm_val de_int dm_nil))) (dm_val (de_op or_add os_add (db_of (de_ix (db_var 1 (pv 1) (.inl (by rfl))) (db_of de_int) (fun _ _ => rfl))) (db_of de_int)) (dm_val (de_var 2 (pv 2) rfl) dm_nil)))) da_nil)))
  (ds_cons (ds_if gok0 (dt_cmp (or_eq hr.units) os_eq (db_of (de_ix (db_var 1 (pv 1) (.inl (by rfl))) (db_of de_int) (fun _ _ => rfl))) (db_of de_int) (nomark _))
  (ds_one (ds_app 3 gok0 rfl (pv 3) (de_callV (ok_l_block T) (takes_of rfl rfl rfl rfl) (hr.mono (by decide)) (by rfl) T.g_l_block T.F_l_block.kp T.b_l_block (dm_val (de_callV (ok_l_cell T) (takes_of rfl rfl rfl rfl) (hr.mono (by decide)) (by rfl) T.g_l_cell T.F_l_cell.kp T.b_l_cell (dm_val (de_var 0 (pv 0) rfl) (dm_val de_int dm_nil))) (dm_val (de_op or_add os_add (db_of (de_ix (db_var 1 (pv 1) (.inl (by rfl))) (db_of de_int) (fun _ _ => rfl))) (db_of de_int)) (dm_val (de_var 2 (pv 2) rfl) dm_nil))))))
  ds_nil)
  (ds_pub 3 (ds_cons (ds_setO 3 gok0 (show 3 < 17 by decide) sc_law.nd rfl (by first | exact Or.inl rfl | exact Or.inr rfl) (de_callO (ok_l_few T) (takes_of rfl rfl rfl rfl) (hr.mono (by decide)) (by rfl) T.g_l_few T.F_l_few.kp T.b_l_few (dm_val (de_var 3 (pv 3) rfl) dm_nil)))
  (ds_pub 3 (ds_cons (ds_set 4 gok0 sc_law.nd rfl (by first | exact Or.inl rfl | exact Or.inr rfl) (de_callV (ok_l_flat T) (takes_of rfl rfl rfl rfl) (hr.mono (by decide)) (by rfl) T.g_l_flat T.F_l_flat.kp T.b_l_flat (dm_val (de_var 3 (pv 3) rfl) dm_nil)))
  (ds_cons (ds_set 5 gok0 sc_law.nd rfl (by first | exact Or.inl rfl | exact Or.inr rfl) (de_callV (ok_l_row T) (takes_of rfl rfl rfl rfl) (hr.mono (by decide)) (by rfl) T.g_l_row T.F_l_row.kp T.b_l_row (dm_val (de_callV (ok_l_cell T) (takes_of rfl rfl rfl rfl) (hr.mono (by decide)) (by rfl) T.g_l_cell T.F_l_cell.kp T.b_l_cell (dm_val (de_var 0 (pv 0) rfl) (dm_val de_int dm_nil))) (dm_val (de_pub (de_lst (da_cons de_int (da_cons de_int (da_cons de_int (da_cons de_int (da_cons de_int (da_cons de_int (da_cons de_int (da_cons de_int da_nil)))))))))) dm_nil))))
  (ds_cons (ds_set 6 gok0 sc_law.nd rfl (by first | exact Or.inl rfl | exact Or.inr rfl) (de_pub (de_lst (da_cons (de_op or_mulX os_mulX (db_of (de_op or_add os_add (db_of (de_ix (db_var 5 (pv 5) (.inl (by rfl))) (db_of de_int) (fun _ _ => rfl))) (db_of de_int))) (db_var 2 (pv 2) (.inl (by rfl)))) (da_cons (de_op or_mulX os_mulX (db_of (de_op or_add os_add (db_of (de_ix (db_var 5 (pv 5) (.inl (by rfl))) (db_of de_int) (fun _ _ => rfl))) (db_of de_int))) (db_var 2 (pv 2) (.inl (by rfl)))) (da_cons (de_ix (db_var 5 (pv 5) (.inl (by rfl))) (db_of de_int) (fun _ _ => rfl)) (da_cons (de_ix (db_own (de_lst (da_cons de_int (da_cons de_int (da_cons de_int da_nil))))) (db_of (de_ix (db_var 5 (pv 5) (.inl (by rfl))) (db_of de_int) (fun _ _ => rfl))) (fun _ _ => rfl)) (da_cons (de_ix (db_var 5 (pv 5) (.inl (by rfl))) (db_of de_int) (fun _ _ => rfl)) (da_cons (de_ix (db_var 5 (pv 5) (.inl (by rfl))) (db_of de_int) (fun _ _ => rfl)) (da_cons (de_ix (db_var 5 (pv 5) (.inl (by rfl))) (db_of de_int) (fun _ _ => rfl)) (da_cons (de_ix (db_var 5 (pv 5) (.inl (by rfl))) (db_of de_int) (fun _ _ => rfl)) da_nil)))))))))))
  (ds_cons (ds_set 7 gok0 sc_law.nd rfl (by first | exact Or.inl rfl | exact Or.inr rfl) (de_callV (ok_l_book T) (takes_of rfl rfl rfl rfl) (hr.mono (by decide)) (by rfl) T.g_l_book T.F_l_book.kp T.b_l_book (dm_val (de_var 6 (pv 6) rfl) dm_nil)))
  (ds_cons (ds_set 8 gok0 sc_law.nd rfl (by first | exact Or.inl rfl | exact Or.inr rfl) (de_pub (de_callO (ok_l_walk T) (takes_of rfl rfl rfl rfl) (hr.mono (by decide)) (by rfl) T.g_l_walk T.F_l_walk.kp T.b_l_walk (dm_val (de_var 3 (pv 3) rfl) (dm_val (de_var 4 (pv 4) rfl) (dm_val (de_var 6 (pv 6) rfl) (dm_val (de_callV (ok_l_row T) (takes_of rfl rfl rfl rfl) (hr.mono (by decide)) (by rfl) T.g_l_row T.F_l_row.kp T.b_l_row (dm_val (de_callV (ok_l_cell T) (takes_of rfl rfl rfl rfl) (hr.mono (by decide)) (by rfl) T.g_l_cell T.F_l_cell.kp T.b_l_cell (dm_val (de_var 0 (pv 0) rfl) (dm_val de_int dm_nil))) (dm_val (de_op or_mulX os_mulX (db_own (de_lst (da_cons de_int da_nil))) (db_of de_int)) dm_nil))) dm_nil)))))))
  (ds_cons (ds_set 9 gok0 sc_law.nd rfl (by first | exact Or.inl rfl | exact Or.inr rfl) (de_type call_tuple_of cs_tuple (by rfl) T.n_tuple (by decide +kernel) (dm_bor (db_own (de_lc (own := [("_law_move", 10)]) rfl sc_law.nd (di_list (de_var 8 (pv 8) rfl)) (blkOk_by (own := [("_law_move", 10)]) (N := ["_law_script", "_law_way", "_law_scale", "_law_blocks", "_law_flat_here", "_law_row_here", "_law_nums", "_law_book_here", "_law_made", "_law_steps", "_law_move", "_law_galley", "_law_promises", "_law_promise", "_law_due", "_law_bad", "_law_index"]) (sc := defScope s_law) (by decide +kernel)) (fun _ _ _ _ _ => (dg_name 10 sc_law.nd rfl (by first | exact Or.inl rfl | exact Or.inr rfl))) (fun _ _ _ _ _ => dt_nil) (fun _ _ _ _ _ => (de_ix (db_var 10 (pv 10) (.inl (by rfl))) (db_of de_int) (fun _ _ => rfl))))) dm_nil)))
  (ds_cons (ds_set 11 gok0 sc_law.nd rfl (by first | exact Or.inl rfl | exact Or.inr rfl) (de_pub (de_make T.mk_Galley (ok_Galley_init T) (takes_of rfl rfl rfl rfl) (hr.mono (by decide)) (by rfl) T.g_Galley T.b_Galley_init (dm_val (de_pub (de_type call_list_of cs_list (by rfl) T.n_list (by decide +kernel) (dm_bor (db_var 3 (pv 3) (.inl (by rfl))) dm_nil))) dm_nil))))
  (ds_cons (ds_set 12 gok0 sc_law.nd rfl (by first | exact Or.inl rfl | exact Or.inr rfl) (de_pub (de_lst (da_cons (de_tup (da_cons (de_strL (by decide +kernel)) (da_cons (de_op or_mulX os_mulX (db_of (de_ix (db_var 1 (pv 1) (.inl (by rfl))) (db_of de_int) (fun _ _ => rfl))) (db_var 2 (pv 2) (.inl (by rfl)))) da_nil))) (da_cons (de_tup (da_cons (de_strL (by decide +kernel)) da_nil)) (da_cons (de_tup (da_cons (de_strL (by decide +kernel)) da_nil)) (da_cons (de_tup (da_cons (de_strL (by decide +kernel)) da_nil)) (da_cons (de_tup (da_cons (de_strL (by decide +kernel)) (da_cons (de_op or_mulX os_mulX (db_of (de_ix (db_var 1 (pv 1) (.inl (by rfl))) (db_of de_int) (fun _ _ => rfl))) (db_var 2 (pv 2) (.inl (by rfl)))) da_nil))) (da_cons (de_tup (da_cons (de_strL (by decide +kernel)) da_nil)) da_nil)))))))))
  (ds_cons (ds_for gok0 (passes_of rfl) rfl (di_list (de_op or_add os_add (db_var 12 (pv 12) (.inl (by rfl))) (db_of (de_sl (db_var 12 (pv 12) (.inl (by rfl))) dp_none (dp_some de_int))))) (dg_name 13 sc_law.nd rfl (by first | exact Or.inl rfl | exact Or.inr rfl))
  (ds_cons (ds_set 14 gok0 sc_law.nd rfl (by first | exact Or.inl rfl | exact Or.inr rfl) (de_callV (ok_l_first T) (takes_of rfl rfl rfl rfl) (hr.mono (by decide)) (by rfl) T.g_l_first T.F_l_first.kp T.b_l_first (dm_val (de_var 3 (pv 3) rfl) (dm_val (de_var 4 (pv 4) rfl) (dm_val (de_var 6 (pv 6) rfl) (dm_val (de_var 13 (pv 13) rfl) (dm_val (de_var 8 (pv 8) rfl) dm_nil)))))))
  (ds_cons (ds_if gok0 (dt_not (dt_val (de_callV (ok_l_same (n := 8) T) (takes_of rfl rfl rfl rfl) (hr.mono (by decide)) (by rfl) T.g_l_same T.F_l_same.kp T.b_l_same (dm_bor (db_of (de_callV (ok_broken_at T) (takes_of rfl rfl rfl rfl) (hr.mono (by decide)) (by rfl) T.g_broken_at T.F_broken_at.kp T.b_broken_at (dm_bor (db_var 11 (pv 11) (.inl (by rfl))) (dm_val (de_var 7 (pv 7) rfl) (dm_val (de_var 9 (pv 9) rfl) (dm_val (de_var 13 (pv 13) rfl) dm_nil)))))) (dm_bor (db_var 14 (pv 14) (.inl (by rfl))) dm_nil)))))
  (ds_one (ds_ret gok0 rfl de_bl))
  ds_nil)
  (ds_one (ds_if gok0 (dt_cmp op_notN os_isnot (db_of (de_callV (ok_broken_at T) (takes_of rfl rfl rfl rfl) (hr.mono (by decide)) (by rfl) T.g_broken_at T.F_broken_at.kp T.b_broken_at (dm_bor (db_own (de_make0 T.mk_Galley (ok_Galley_init T) (takes_of rfl rfl rfl rfl) (hr.mono (by decide)) (by rfl) T.g_Galley T.bd_Galley_init (dvs := [.ref T.e_Galley_init]) (.cons rfl .nil) (fun S _ => ⟨(T.kt_Galley_init S), trivial⟩))) (dm_val (de_var 7 (pv 7) rfl) (dm_val (de_tup da_nil) (dm_val (de_var 13 (pv 13) rfl) dm_nil)))))) (db_of de_non) (nomark _))
  (ds_one (ds_ret gok0 rfl de_bl))
  ds_nil)))))
  (ds_cons (ds_set 13 gok0 sc_law.nd rfl (by first | exact Or.inl rfl | exact Or.inr rfl) (de_ix (db_var 12 (pv 12) (.inl (by rfl))) (db_of (de_ix (db_var 1 (pv 1) (.inl (by rfl))) (db_of de_int) (fun _ _ => rfl))) (fun _ _ => rfl)))
  (ds_cons (ds_if gok0 (dt_not (dt_val (de_callV (ok_l_refused T) (takes_of rfl rfl rfl rfl) (hr.mono (by decide)) (by rfl) T.g_l_refused T.F_l_refused.kp T.b_l_refused (dm_bor (db_var 11 (pv 11) (.inl (by rfl))) (dm_val (de_var 7 (pv 7) rfl) (dm_val (de_sl (db_var 9 (pv 9) (.inl (by rfl))) dp_none (dp_some (de_neg de_int))) (dm_val (de_var 13 (pv 13) rfl) (dm_val (de_op op_sub os_sub (db_of (de_bltn call_len cs_len (by rfl) T.n_len (by decide +kernel) (dm_bor (db_var 9 (pv 9) (.inl (by rfl))) dm_nil))) (db_of de_int)) dm_nil))))))))
  (ds_one (ds_ret gok0 rfl de_bl))
  ds_nil)
  (ds_cons (ds_asg gok0 (de_callV (ok_l_spoilt T) (takes_of rfl rfl rfl rfl) (hr.mono (by decide)) (by rfl) T.g_l_spoilt T.F_l_spoilt.kp T.b_l_spoilt (dm_val (de_var 9 (pv 9) rfl) (dm_val (de_bltn call_len cs_len (by rfl) T.n_len (by decide +kernel) (dm_bor (db_var 4 (pv 4) (.inl (by rfl))) dm_nil)) (dm_val (de_ix (db_var 1 (pv 1) (.inl (by rfl))) (db_of de_int) (fun _ _ => rfl)) (dm_val (de_op op_mod os_mod (db_of (de_type cr_int cs_int (by rfl) T.n_int (by decide +kernel) (dm_bor (db_of (de_ix (db_var 1 (pv 1) (.inl (by rfl))) (db_of de_int) (fun _ _ => rfl))) dm_nil))) (db_of (de_bltn call_len cs_len (by rfl) T.n_len (by decide +kernel) (dm_bor (db_var 9 (pv 9) (.inl (by rfl))) dm_nil)))) dm_nil))))) (dg_tup rfl (dg_cons (dg_name 15 sc_law.nd rfl (by first | exact Or.inl rfl | exact Or.inr rfl)) (dg_cons (dg_name 16 sc_law.nd rfl (by first | exact Or.inl rfl | exact Or.inr rfl)) dg_nil))))
  (ds_cons (ds_if gok0 (dt_not (dt_val (de_callV (ok_l_refused T) (takes_of rfl rfl rfl rfl) (hr.mono (by decide)) (by rfl) T.g_l_refused T.F_l_refused.kp T.b_l_refused (dm_bor (db_var 11 (pv 11) (.inl (by rfl))) (dm_val (de_var 7 (pv 7) rfl) (dm_val (de_var 15 (pv 15) rfl) (dm_val (de_var 13 (pv 13) rfl) (dm_val (de_var 16 (pv 16) rfl) dm_nil))))))))
  (ds_one (ds_ret gok0 rfl de_bl))
  ds_nil)
  (ds_cons (ds_set 14 gok0 sc_law.nd rfl (by first | exact Or.inl rfl | exact Or.inr rfl) (de_callV (ok_l_first T) (takes_of rfl rfl rfl rfl) (hr.mono (by decide)) (by rfl) T.g_l_first T.F_l_first.kp T.b_l_first (dm_val (de_var 3 (pv 3) rfl) (dm_val (de_var 4 (pv 4) rfl) (dm_val (de_var 6 (pv 6) rfl) (dm_val (de_var 13 (pv 13) rfl) (dm_val (de_var 8 (pv 8) rfl) dm_nil)))))))
  (ds_one (ds_ret gok0 rfl (de_and (de_callV (ok_l_same (n := 8) T) (takes_of rfl rfl rfl rfl) (hr.mono (by decide)) (by rfl) T.g_l_same T.F_l_same.kp T.b_l_same (dm_bor (db_of (de_callV (ok_broken_at T) (takes_of rfl rfl rfl rfl) (hr.mono (by decide)) (by rfl) T.g_broken_at T.F_broken_at.kp T.b_broken_at (dm_bor (db_var 11 (pv 11) (.inl (by rfl))) (dm_val (de_var 7 (pv 7) rfl) (dm_val (de_var 9 (pv 9) rfl) (dm_val (de_var 13 (pv 13) rfl) dm_nil)))))) (dm_bor (db_var 14 (pv 14) (.inl (by rfl))) dm_nil))) (de_one (de_callV (ok_l_same (n := 8) T) (takes_of rfl rfl rfl rfl) (hr.mono (by decide)) (by rfl) T.g_l_same T.F_l_same.kp T.b_l_same (dm_bor (db_own (de_type (call_listO T.m_Galley___iter__ (ok_it_Galley T) T.m_Galley___len__ (ok_ln_Galley T) T.b_Galley_len (hr.mono (by decide)) rfl) (cs_listO T.cm_Galley) (by rfl) T.n_list (by decide +kernel) (dm_bor (db_var 11 (pv 11) (.inl (by rfl))) dm_nil))) (dm_bor (db_var 3 (pv 3) (.inl (by rfl))) dm_nil))))))))))))))))))))) (.inl rfl))) (.inl rfl))))))
end
end Lk
end S_P_walk
section S_P_end
set_option Elab.async false
set_option linter.all false
set_option maxRecDepth 100000
set_option maxHeartbeats 4000000
namespace Lk
open PySem L2 Dx PySem.Spec PyProof.Rows
theorem txt_mk {K : PySem.W.Frag} {h : Heap} {mg : Str → Option Value} (X : K.In h) (G : h.Ns mainGlobals mg)
    {f0 : Addr} {oc0 kV0 dc0 pm0 cd0 ct0 : Value} {od0 an0 : Option Addr} {sl0 : Array (Option Value)}
    {f1 : Addr} {oc1 kV1 dc1 pm1 cd1 ct1 : Value} {od1 an1 : Option Addr} {sl1 : Array (Option Value)}
    {f2 : Addr} {oc2 kV2 dc2 pm2 cd2 ct2 : Value} {od2 an2 : Option Addr} {sl2 : Array (Option Value)}
    {f3 : Addr} {oc3 kV3 dc3 pm3 cd3 ct3 : Value} {od3 an3 : Option Addr} {sl3 : Array (Option Value)}
    {f4 : Addr} {oc4 kV4 dc4 pm4 cd4 ct4 : Value} {od4 an4 : Option Addr} {sl4 : Array (Option Value)}
    {f5 : Addr} {oc5 kV5 dc5 pm5 cd5 ct5 : Value} {od5 an5 : Option Addr} {sl5 : Array (Option Value)}
    {f6 : Addr} {oc6 kV6 dc6 pm6 cd6 ct6 : Value} {od6 an6 : Option Addr} {sl6 : Array (Option Value)}
    {f7 : Addr} {oc7 kV7 dc7 pm7 cd7 ct7 : Value} {od7 an7 : Option Addr} {sl7 : Array (Option Value)}
    {f8 : Addr} {oc8 kV8 dc8 pm8 cd8 ct8 : Value} {od8 an8 : Option Addr} {sl8 : Array (Option Value)}
    {f9 : Addr} {oc9 kV9 dc9 pm9 cd9 ct9 : Value} {od9 an9 : Option Addr} {sl9 : Array (Option Value)}
    {f10 : Addr} {oc10 kV10 dc10 pm10 cd10 ct10 : Value} {od10 an10 : Option Addr} {sl10 : Array (Option Value)}
    {f11 : Addr} {oc11 kV11 dc11 pm11 cd11 ct11 : Value} {od11 an11 : Option Addr} {sl11 : Array (Option Value)}
    {f12 : Addr} {oc12 kV12 dc12 pm12 cd12 ct12 : Value} {od12 an12 : Option Addr} {sl12 : Array (Option Value)}
    {f13 : Addr} {oc13 kV13 dc13 pm13 cd13 ct13 : Value} {od13 an13 : Option Addr} {sl13 : Array (Option Value)}
    {f14 : Addr} {oc14 kV14 dc14 pm14 cd14 ct14 : Value} {od14 an14 : Option Addr} {sl14 : Array (Option Value)}
    {f15 : Addr} {oc15 kV15 dc15 pm15 cd15 ct15 : Value} {od15 an15 : Option Addr} {sl15 : Array (Option Value)}
    {f16 : Addr} {oc16 kV16 dc16 pm16 cd16 ct16 : Value} {od16 an16 : Option Addr} {sl16 : Array (Option Value)}
    {f17 : Addr} {oc17 kV17 dc17 pm17 cd17 ct17 : Value} {od17 an17 : Option Addr} {sl17 : Array (Option Value)}
    {f18 : Addr} {oc18 kV18 dc18 pm18 cd18 ct18 : Value} {od18 an18 : Option Addr} {sl18 : Array (Option Value)}
    {f19 : Addr} {oc19 kV19 dc19 pm19 cd19 ct19 : Value} {od19 an19 : Option Addr} {sl19 : Array (Option Value)}
    {f20 : Addr} {oc20 dc20 pm20 cd20 ct20 : Value} {od20 an20 : Option Addr} {sl20 : Array (Option Value)}
    {kwD20 : Addr} {kwt20_0 kwt20_1 : Tok}
    {f21 : Addr} {oc21 kV21 dc21 pm21 cd21 ct21 : Value} {od21 an21 : Option Addr} {sl21 : Array (Option Value)}
    {f22 : Addr} {oc22 kV22 dc22 pm22 cd22 ct22 : Value} {od22 an22 : Option Addr} {sl22 : Array (Option Value)}
    {f23 : Addr} {oc23 kV23 dc23 pm23 cd23 ct23 : Value} {od23 an23 : Option Addr} {sl23 : Array (Option Value)}
    {f24 : Addr} {oc24 kV24 dc24 pm24 cd24 ct24 : Value} {od24 an24 : Option Addr} {sl24 : Array (Option Value)}
    {dtT24 dtE24 : Addr} {ocT24 : Value} {odT24 odE24 : Option Addr} {nT24 nE24 : Nat} {slT24 slE24 : Array (Option Value)}
    {f25 : Addr} {oc25 kV25 dc25 pm25 cd25 ct25 : Value} {od25 an25 : Option Addr} {sl25 : Array (Option Value)}
    {f26 : Addr} {oc26 kV26 dc26 pm26 cd26 ct26 : Value} {od26 an26 : Option Addr} {sl26 : Array (Option Value)}
    {f27 : Addr} {oc27 kV27 dc27 pm27 cd27 ct27 : Value} {od27 an27 : Option Addr} {sl27 : Array (Option Value)}
    {f28 : Addr} {oc28 kV28 dc28 pm28 cd28 ct28 : Value} {od28 an28 : Option Addr} {sl28 : Array (Option Value)}
    {f29 : Addr} {oc29 kV29 dc29 pm29 cd29 ct29 : Value} {od29 an29 : Option Addr} {sl29 : Array (Option Value)}
    {f30 : Addr} {oc30 kV30 dc30 pm30 cd30 ct30 : Value} {od30 an30 : Option Addr} {sl30 : Array (Option Value)}
    {f31 : Addr} {oc31 kV31 dc31 pm31 cd31 ct31 : Value} {od31 an31 : Option Addr} {sl31 : Array (Option Value)}
    {f32 : Addr} {oc32 kV32 dc32 pm32 cd32 ct32 : Value} {od32 an32 : Option Addr} {sl32 : Array (Option Value)}
    {f33 : Addr} {oc33 kV33 dc33 pm33 cd33 ct33 : Value} {od33 an33 : Option Addr} {sl33 : Array (Option Value)}
    {f34 : Addr} {oc34 kV34 dc34 pm34 cd34 ct34 : Value} {od34 an34 : Option Addr} {sl34 : Array (Option Value)}
    {f35 : Addr} {oc35 kV35 dc35 pm35 cd35 ct35 : Value} {od35 an35 : Option Addr} {sl35 : Array (Option Value)}
    {f36 : Addr} {oc36 kV36 dc36 pm36 cd36 ct36 : Value} {od36 an36 : Option Addr} {sl36 : Array (Option Value)}
    {f37 : Addr} {oc37 kV37 dc37 pm37 cd37 ct37 : Value} {od37 an37 : Option Addr} {sl37 : Array (Option Value)}
    {f38 : Addr} {oc38 kV38 dc38 pm38 cd38 ct38 : Value} {od38 an38 : Option Addr} {sl38 : Array (Option Value)}
    {f39 : Addr} {oc39 kV39 dc39 pm39 cd39 ct39 : Value} {od39 an39 : Option Addr} {sl39 : Array (Option Value)}
    {f40 : Addr} {oc40 kV40 dc40 pm40 cd40 ct40 : Value} {od40 an40 : Option Addr} {sl40 : Array (Option Value)}
    {f41 : Addr} {oc41 kV41 dc41 pm41 cd41 ct41 : Value} {od41 an41 : Option Addr} {sl41 : Array (Option Value)}
    {kt_LEAST_0_0 : Tok}
    {kt_LEAST_0_1 : Tok}
    {kt_LEAST_0_2 : Tok}
    {kt_LEAST_0_3 : Tok}
    {kt_LEAST_0_4 : Tok}
    {kt_LEAST_0_5 : Tok}
    {kt_LEAST_0_6 : Tok}
    {kt_LEAST_0_7 : Tok}
    {kt_LEAST_0_8 : Tok}
    {kt_LEAST_0_9 : Tok}
    {kA_LEAST_0 : Addr} {kod_LEAST_0 : Option Addr} {kn_LEAST_0 : Nat} {ksl_LEAST_0 : Array (Option Value)}
    {kt_MOST_0_0 : Tok}
    {kt_MOST_0_1 : Tok}
    {kt_MOST_0_2 : Tok}
    {kt_MOST_0_3 : Tok}
    {kt_MOST_0_4 : Tok}
    {kt_MOST_0_5 : Tok}
    {kt_MOST_0_6 : Tok}
    {kt_MOST_0_7 : Tok}
    {kt_MOST_0_8 : Tok}
    {kt_MOST_0_9 : Tok}
    {kA_MOST_0 : Addr} {kod_MOST_0 : Option Addr} {kn_MOST_0 : Nat} {ksl_MOST_0 : Array (Option Value)}
    {t_MOST_FIGURES : Tok}
    {t_MOST_PIECES : Tok}
    {kt_START_0_0 : Tok}
    {kt_START_0_1 : Tok}
    {kt_START_0_2 : Tok}
    {kA_START_0 : Addr} {kod_START_0 : Option Addr} {kn_START_0 : Nat} {ksl_START_0 : Array (Option Value)}
    {A_BadBook : Addr}
    {A_BadLaying : Addr}
    {A_LaidError : Addr}
    {A_NoSuchNumber : Addr}
    {A_TooLarge : Addr}
    {nm_BadBook qq_BadBook : Str} {N_BadBook fI_BadBook : Addr} {bs_BadBook bm_BadBook : List Value} {sn_BadBook : List Str} {sb_BadBook : List Value} {ab_BadBook : Bool} {co_BadBook : Option Bool} {dd_BadBook od_BadBook an_BadBook : Option Addr} {m0_BadBook m1_BadBook m2_BadBook m3_BadBook m5_BadBook : Option Value} {oc_BadBook kV_BadBook dc_BadBook pm_BadBook cd_BadBook ct_BadBook : Value} {sl_BadBook : Array (Option Value)}
    {nm_BadLaying qq_BadLaying : Str} {N_BadLaying fI_BadLaying : Addr} {bs_BadLaying bm_BadLaying : List Value} {sn_BadLaying : List Str} {sb_BadLaying : List Value} {ab_BadLaying : Bool} {co_BadLaying : Option Bool} {dd_BadLaying od_BadLaying an_BadLaying : Option Addr} {m0_BadLaying m1_BadLaying m2_BadLaying m3_BadLaying m5_BadLaying : Option Value} {oc_BadLaying kV_BadLaying dc_BadLaying pm_BadLaying cd_BadLaying ct_BadLaying : Value} {sl_BadLaying : Array (Option Value)}
    {nm_NoSuchNumber qq_NoSuchNumber : Str} {N_NoSuchNumber fI_NoSuchNumber : Addr} {bs_NoSuchNumber bm_NoSuchNumber : List Value} {sn_NoSuchNumber : List Str} {sb_NoSuchNumber : List Value} {ab_NoSuchNumber : Bool} {co_NoSuchNumber : Option Bool} {dd_NoSuchNumber od_NoSuchNumber an_NoSuchNumber : Option Addr} {m0_NoSuchNumber m1_NoSuchNumber m2_NoSuchNumber m3_NoSuchNumber m5_NoSuchNumber : Option Value} {oc_NoSuchNumber kV_NoSuchNumber dc_NoSuchNumber pm_NoSuchNumber cd_NoSuchNumber ct_NoSuchNumber : Value} {sl_NoSuchNumber : Array (Option Value)}
    {nm_TooLarge qq_TooLarge : Str} {N_TooLarge fI_TooLarge : Addr} {bs_TooLarge bm_TooLarge : List Value} {sn_TooLarge : List Str} {sb_TooLarge : List Value} {ab_TooLarge : Bool} {co_TooLarge : Option Bool} {dd_TooLarge od_TooLarge an_TooLarge : Option Addr} {m0_TooLarge m1_TooLarge m2_TooLarge m3_TooLarge m5_TooLarge : Option Value} {oc_TooLarge kV_TooLarge dc_TooLarge pm_TooLarge cd_TooLarge ct_TooLarge : Value} {sl_TooLarge : Array (Option Value)}
    {A_Book : Addr}
    {A_Galley : Addr}
    {pp_Galley_figures : Addr} {pq_Galley_figures : List Value}
    {pp_Galley_pieces : Addr} {pq_Galley_pieces : List Value}
    {kt_Book_FIELDS_0_0 : Tok}
    {kt_Book_FIELDS_0_1 : Tok}
    {kt_Book_FIELDS_0_2 : Tok}
    {kt_Book_FIELDS_0_3 : Tok}
    {kt_Book_FIELDS_0_4 : Tok}
    {kt_Book_FIELDS_0_5 : Tok}
    {kt_Book_FIELDS_0_6 : Tok}
    {kt_Book_FIELDS_0_7 : Tok}
    {kt_Book_FIELDS_0_8 : Tok}
    {kt_Book_FIELDS_0_9 : Tok}
    {kt_Book_FIELDS_0_10 : Tok}
    {kA_Book_FIELDS_0 : Addr} {kod_Book_FIELDS_0 : Option Addr} {kn_Book_FIELDS_0 : Nat} {ksl_Book_FIELDS_0 : Array (Option Value)}
    (l0 : K.lookup f0 = some ⟨oc0, od0, .func (PySem.W.fnOf "pieces" "Galley.pieces" (defArgs s_Galley_pieces) (defBody s_Galley_pieces) (defScope s_Galley_pieces) .none kV0 dc0 pm0 an0 cd0 ct0), sl0⟩) (c0 : PySem.W.codeIn K cd0 "Galley.pieces" = true) (k0 : PySem.W.keepIn K (.ref f0) = true)
    (l1 : K.lookup f1 = some ⟨oc1, od1, .func (PySem.W.fnOf "block_at" "Galley.block_at" (defArgs s_Galley_block_at) (defBody s_Galley_block_at) (defScope s_Galley_block_at) .none kV1 dc1 pm1 an1 cd1 ct1), sl1⟩) (c1 : PySem.W.codeIn K cd1 "Galley.block_at" = true) (k1 : PySem.W.keepIn K (.ref f1) = true)
    (a2 : PySem.W.nsIn K mainGlobals "bare_width" = some (some (.ref f2)))
    (l2 : K.lookup f2 = some ⟨oc2, od2, .func (PySem.W.fnOf "bare_width" "bare_width" (defArgs s_bare_width) (defBody s_bare_width) (defScope s_bare_width) .none kV2 dc2 pm2 an2 cd2 ct2), sl2⟩) (c2 : PySem.W.codeIn K cd2 "bare_width" = true) (k2 : PySem.W.keepIn K (.ref f2) = true)
    (a3 : PySem.W.nsIn K mainGlobals "line_width" = some (some (.ref f3)))
    (l3 : K.lookup f3 = some ⟨oc3, od3, .func (PySem.W.fnOf "line_width" "line_width" (defArgs s_line_width) (defBody s_line_width) (defScope s_line_width) .none kV3 dc3 pm3 an3 cd3 ct3), sl3⟩) (c3 : PySem.W.codeIn K cd3 "line_width" = true) (k3 : PySem.W.keepIn K (.ref f3) = true)
    (a4 : PySem.W.nsIn K mainGlobals "line_gap" = some (some (.ref f4)))
    (l4 : K.lookup f4 = some ⟨oc4, od4, .func (PySem.W.fnOf "line_gap" "line_gap" (defArgs s_line_gap) (defBody s_line_gap) (defScope s_line_gap) .none kV4 dc4 pm4 an4 cd4 ct4), sl4⟩) (c4 : PySem.W.codeIn K cd4 "line_gap" = true) (k4 : PySem.W.keepIn K (.ref f4) = true)
    (a5 : PySem.W.nsIn K mainGlobals "line_cost" = some (some (.ref f5)))
    (l5 : K.lookup f5 = some ⟨oc5, od5, .func (PySem.W.fnOf "line_cost" "line_cost" (defArgs s_line_cost) (defBody s_line_cost) (defScope s_line_cost) .none kV5 dc5 pm5 an5 cd5 ct5), sl5⟩) (c5 : PySem.W.codeIn K cd5 "line_cost" = true) (k5 : PySem.W.keepIn K (.ref f5) = true)
    (a6 : PySem.W.nsIn K mainGlobals "line_ends" = some (some (.ref f6)))
    (l6 : K.lookup f6 = some ⟨oc6, od6, .func (PySem.W.fnOf "line_ends" "line_ends" (defArgs s_line_ends) (defBody s_line_ends) (defScope s_line_ends) .none kV6 dc6 pm6 an6 cd6 ct6), sl6⟩) (c6 : PySem.W.codeIn K cd6 "line_ends" = true) (k6 : PySem.W.keepIn K (.ref f6) = true)
    (a7 : PySem.W.nsIn K mainGlobals "line_need" = some (some (.ref f7)))
    (l7 : K.lookup f7 = some ⟨oc7, od7, .func (PySem.W.fnOf "line_need" "line_need" (defArgs s_line_need) (defBody s_line_need) (defScope s_line_need) .none kV7 dc7 pm7 an7 cd7 ct7), sl7⟩) (c7 : PySem.W.codeIn K cd7 "line_need" = true) (k7 : PySem.W.keepIn K (.ref f7) = true)
    (a8 : PySem.W.nsIn K mainGlobals "turn_cost" = some (some (.ref f8)))
    (l8 : K.lookup f8 = some ⟨oc8, od8, .func (PySem.W.fnOf "turn_cost" "turn_cost" (defArgs s_turn_cost) (defBody s_turn_cost) (defScope s_turn_cost) .none kV8 dc8 pm8 an8 cd8 ct8), sl8⟩) (c8 : PySem.W.codeIn K cd8 "turn_cost" = true) (k8 : PySem.W.keepIn K (.ref f8) = true)
    (a9 : PySem.W.nsIn K mainGlobals "called_ahead" = some (some (.ref f9)))
    (l9 : K.lookup f9 = some ⟨oc9, od9, .func (PySem.W.fnOf "called_ahead" "called_ahead" (defArgs s_called_ahead) (defBody s_called_ahead) (defScope s_called_ahead) .none kV9 dc9 pm9 an9 cd9 ct9), sl9⟩) (c9 : PySem.W.codeIn K cd9 "called_ahead" = true) (k9 : PySem.W.keepIn K (.ref f9) = true)
    (l10 : K.lookup f10 = some ⟨oc10, od10, .func (PySem.W.fnOf "figures" "Galley.figures" (defArgs s_Galley_figures) (defBody s_Galley_figures) (defScope s_Galley_figures) .none kV10 dc10 pm10 an10 cd10 ct10), sl10⟩) (c10 : PySem.W.codeIn K cd10 "Galley.figures" = true) (k10 : PySem.W.keepIn K (.ref f10) = true)
    (a11 : PySem.W.nsIn K mainGlobals "moves_to" = some (some (.ref f11)))
    (l11 : K.lookup f11 = some ⟨oc11, od11, .func (PySem.W.fnOf "moves_to" "moves_to" (defArgs s_moves_to) (defBody s_moves_to) (defScope s_moves_to) .none kV11 dc11 pm11 an11 cd11 ct11), sl11⟩) (c11 : PySem.W.codeIn K cd11 "moves_to" = true) (k11 : PySem.W.keepIn K (.ref f11) = true)
    (l12 : K.lookup f12 = some ⟨oc12, od12, .func (PySem.W.fnOf "__len__" "Galley.__len__" (defArgs s_Galley_len) (defBody s_Galley_len) (defScope s_Galley_len) .none kV12 dc12 pm12 an12 cd12 ct12), sl12⟩) (c12 : PySem.W.codeIn K cd12 "Galley.__len__" = true) (k12 : PySem.W.keepIn K (.ref f12) = true)
    (a13 : PySem.W.nsIn K mainGlobals "moves_of" = some (some (.ref f13)))
    (l13 : K.lookup f13 = some ⟨oc13, od13, .func (PySem.W.fnOf "moves_of" "moves_of" (defArgs s_moves_of) (defBody s_moves_of) (defScope s_moves_of) .none kV13 dc13 pm13 an13 cd13 ct13), sl13⟩) (c13 : PySem.W.codeIn K cd13 "moves_of" = true) (k13 : PySem.W.keepIn K (.ref f13) = true)
    (a14 : PySem.W.nsIn K mainGlobals "made_moves" = some (some (.ref f14)))
    (l14 : K.lookup f14 = some ⟨oc14, od14, .func (PySem.W.fnOf "made_moves" "made_moves" (defArgs s_made_moves) (defBody s_made_moves) (defScope s_made_moves) .none kV14 dc14 pm14 an14 cd14 ct14), sl14⟩) (c14 : PySem.W.codeIn K cd14 "made_moves" = true) (k14 : PySem.W.keepIn K (.ref f14) = true)
    (a15 : PySem.W.nsIn K mainGlobals "states_of" = some (some (.ref f15)))
    (l15 : K.lookup f15 = some ⟨oc15, od15, .func (PySem.W.fnOf "states_of" "states_of" (defArgs s_states_of) (defBody s_states_of) (defScope s_states_of) .none kV15 dc15 pm15 an15 cd15 ct15), sl15⟩) (c15 : PySem.W.codeIn K cd15 "states_of" = true) (k15 : PySem.W.keepIn K (.ref f15) = true)
    (a16 : PySem.W.nsIn K mainGlobals "is_forbidden" = some (some (.ref f16)))
    (l16 : K.lookup f16 = some ⟨oc16, od16, .func (PySem.W.fnOf "is_forbidden" "is_forbidden" (defArgs s_is_forbidden) (defBody s_is_forbidden) (defScope s_is_forbidden) .none kV16 dc16 pm16 an16 cd16 ct16), sl16⟩) (c16 : PySem.W.codeIn K cd16 "is_forbidden" = true) (k16 : PySem.W.keepIn K (.ref f16) = true)
    (a17 : PySem.W.nsIn K mainGlobals "broken_at" = some (some (.ref f17)))
    (l17 : K.lookup f17 = some ⟨oc17, od17, .func (PySem.W.fnOf "broken_at" "broken_at" (defArgs s_broken_at) (defBody s_broken_at) (defScope s_broken_at) .none kV17 dc17 pm17 an17 cd17 ct17), sl17⟩) (c17 : PySem.W.codeIn K cd17 "broken_at" = true) (k17 : PySem.W.keepIn K (.ref f17) = true)
    (a18 : PySem.W.nsIn K mainGlobals "is_number" = some (some (.ref f18)))
    (l18 : K.lookup f18 = some ⟨oc18, od18, .func (PySem.W.fnOf "is_number" "is_number" (defArgs s_is_number) (defBody s_is_number) (defScope s_is_number) .none kV18 dc18 pm18 an18 cd18 ct18), sl18⟩) (c18 : PySem.W.codeIn K cd18 "is_number" = true) (k18 : PySem.W.keepIn K (.ref f18) = true)
    (a19 : PySem.W.nsIn K mainGlobals "is_within" = some (some (.ref f19)))
    (l19 : K.lookup f19 = some ⟨oc19, od19, .func (PySem.W.fnOf "is_within" "is_within" (defArgs s_is_within) (defBody s_is_within) (defScope s_is_within) .none kV19 dc19 pm19 an19 cd19 ct19), sl19⟩) (c19 : PySem.W.codeIn K cd19 "is_within" = true) (k19 : PySem.W.keepIn K (.ref f19) = true)
    (l20 : K.lookup f20 = some ⟨oc20, od20, .func (PySem.W.fnOf "__init__" "Book.__init__" (defArgs s_Book_init) (defBody s_Book_init) (defScope s_Book_init) .none (.ref kwD20) dc20 pm20 an20 cd20 ct20), sl20⟩) (c20 : PySem.W.codeIn K cd20 "Book.__init__" = true) (k20 : PySem.W.keepIn K (.ref f20) = true)
    (kw20_0 : PySem.W.nsIn K kwD20 "columns" = some (some (.int (1) kwt20_0)))
    (kw20_1 : PySem.W.nsIn K kwD20 "gutter" = some (some (.int (1) kwt20_1)))
    (kw20_2 : PySem.W.nsIn K kwD20 "full" = some (some (.bool false)))
    (a21 : PySem.W.nsIn K mainGlobals "pieces_in" = some (some (.ref f21)))
    (l21 : K.lookup f21 = some ⟨oc21, od21, .func (PySem.W.fnOf "pieces_in" "pieces_in" (defArgs s_pieces_in) (defBody s_pieces_in) (defScope s_pieces_in) .none kV21 dc21 pm21 an21 cd21 ct21), sl21⟩) (c21 : PySem.W.codeIn K cd21 "pieces_in" = true) (k21 : PySem.W.keepIn K (.ref f21) = true)
    (a22 : PySem.W.nsIn K mainGlobals "figures_in" = some (some (.ref f22)))
    (l22 : K.lookup f22 = some ⟨oc22, od22, .func (PySem.W.fnOf "figures_in" "figures_in" (defArgs s_figures_in) (defBody s_figures_in) (defScope s_figures_in) .none kV22 dc22 pm22 an22 cd22 ct22), sl22⟩) (c22 : PySem.W.codeIn K cd22 "figures_in" = true) (k22 : PySem.W.keepIn K (.ref f22) = true)
    (a23 : PySem.W.nsIn K mainGlobals "spans_in" = some (some (.ref f23)))
    (l23 : K.lookup f23 = some ⟨oc23, od23, .func (PySem.W.fnOf "spans_in" "spans_in" (defArgs s_spans_in) (defBody s_spans_in) (defScope s_spans_in) .none kV23 dc23 pm23 an23 cd23 ct23), sl23⟩) (c23 : PySem.W.codeIn K cd23 "spans_in" = true) (k23 : PySem.W.keepIn K (.ref f23) = true)
    (l24 : K.lookup f24 = some ⟨oc24, od24, .func (PySem.W.fnOf "__init__" "Galley.__init__" (defArgs s_Galley_init) (defBody s_Galley_init) (defScope s_Galley_init) (.ref dtT24) kV24 dc24 pm24 an24 cd24 ct24), sl24⟩) (c24 : PySem.W.codeIn K cd24 "Galley.__init__" = true) (k24 : PySem.W.keepIn K (.ref f24) = true)
    (lT24 : K.lookup dtT24 = some ⟨ocT24, odT24, .seq #[.ref dtE24] nT24, slT24⟩) (lE24 : K.lookup dtE24 = some ⟨.type "tuple", odE24, .seq #[] nE24, slE24⟩)
    (a25 : PySem.W.nsIn K mainGlobals "_law_cell" = some (some (.ref f25)))
    (l25 : K.lookup f25 = some ⟨oc25, od25, .func (PySem.W.fnOf "_law_cell" "_law_cell" (defArgs s_l_cell) (defBody s_l_cell) (defScope s_l_cell) .none kV25 dc25 pm25 an25 cd25 ct25), sl25⟩) (c25 : PySem.W.codeIn K cd25 "_law_cell" = true) (k25 : PySem.W.keepIn K (.ref f25) = true)
    (a26 : PySem.W.nsIn K mainGlobals "_law_row" = some (some (.ref f26)))
    (l26 : K.lookup f26 = some ⟨oc26, od26, .func (PySem.W.fnOf "_law_row" "_law_row" (defArgs s_l_row) (defBody s_l_row) (defScope s_l_row) .none kV26 dc26 pm26 an26 cd26 ct26), sl26⟩) (c26 : PySem.W.codeIn K cd26 "_law_row" = true) (k26 : PySem.W.keepIn K (.ref f26) = true)
    (a27 : PySem.W.nsIn K mainGlobals "_law_number" = some (some (.ref f27)))
    (l27 : K.lookup f27 = some ⟨oc27, od27, .func (PySem.W.fnOf "_law_number" "_law_number" (defArgs s_l_number) (defBody s_l_number) (defScope s_l_number) .none kV27 dc27 pm27 an27 cd27 ct27), sl27⟩) (c27 : PySem.W.codeIn K cd27 "_law_number" = true) (k27 : PySem.W.keepIn K (.ref f27) = true)
    (a28 : PySem.W.nsIn K mainGlobals "_law_same" = some (some (.ref f28)))
    (l28 : K.lookup f28 = some ⟨oc28, od28, .func (PySem.W.fnOf "_law_same" "_law_same" (defArgs s_l_same) (defBody s_l_same) (defScope s_l_same) .none kV28 dc28 pm28 an28 cd28 ct28), sl28⟩) (c28 : PySem.W.codeIn K cd28 "_law_same" = true) (k28 : PySem.W.keepIn K (.ref f28) = true)
    (a29 : PySem.W.nsIn K mainGlobals "_law_block" = some (some (.ref f29)))
    (l29 : K.lookup f29 = some ⟨oc29, od29, .func (PySem.W.fnOf "_law_block" "_law_block" (defArgs s_l_block) (defBody s_l_block) (defScope s_l_block) .none kV29 dc29 pm29 an29 cd29 ct29), sl29⟩) (c29 : PySem.W.codeIn K cd29 "_law_block" = true) (k29 : PySem.W.keepIn K (.ref f29) = true)
    (a30 : PySem.W.nsIn K mainGlobals "_law_few" = some (some (.ref f30)))
    (l30 : K.lookup f30 = some ⟨oc30, od30, .func (PySem.W.fnOf "_law_few" "_law_few" (defArgs s_l_few) (defBody s_l_few) (defScope s_l_few) .none kV30 dc30 pm30 an30 cd30 ct30), sl30⟩) (c30 : PySem.W.codeIn K cd30 "_law_few" = true) (k30 : PySem.W.keepIn K (.ref f30) = true)
    (a31 : PySem.W.nsIn K mainGlobals "_law_flat" = some (some (.ref f31)))
    (l31 : K.lookup f31 = some ⟨oc31, od31, .func (PySem.W.fnOf "_law_flat" "_law_flat" (defArgs s_l_flat) (defBody s_l_flat) (defScope s_l_flat) .none kV31 dc31 pm31 an31 cd31 ct31), sl31⟩) (c31 : PySem.W.codeIn K cd31 "_law_flat" = true) (k31 : PySem.W.keepIn K (.ref f31) = true)
    (a32 : PySem.W.nsIn K mainGlobals "_law_width" = some (some (.ref f32)))
    (l32 : K.lookup f32 = some ⟨oc32, od32, .func (PySem.W.fnOf "_law_width" "_law_width" (defArgs s_l_width) (defBody s_l_width) (defScope s_l_width) .none kV32 dc32 pm32 an32 cd32 ct32), sl32⟩) (c32 : PySem.W.codeIn K cd32 "_law_width" = true) (k32 : PySem.W.keepIn K (.ref f32) = true)
    (a33 : PySem.W.nsIn K mainGlobals "_law_moves" = some (some (.ref f33)))
    (l33 : K.lookup f33 = some ⟨oc33, od33, .func (PySem.W.fnOf "_law_moves" "_law_moves" (defArgs s_l_moves) (defBody s_l_moves) (defScope s_l_moves) .none kV33 dc33 pm33 an33 cd33 ct33), sl33⟩) (c33 : PySem.W.codeIn K cd33 "_law_moves" = true) (k33 : PySem.W.keepIn K (.ref f33) = true)
    (a34 : PySem.W.nsIn K mainGlobals "_law_walk" = some (some (.ref f34)))
    (l34 : K.lookup f34 = some ⟨oc34, od34, .func (PySem.W.fnOf "_law_walk" "_law_walk" (defArgs s_l_walk) (defBody s_l_walk) (defScope s_l_walk) .none kV34 dc34 pm34 an34 cd34 ct34), sl34⟩) (c34 : PySem.W.codeIn K cd34 "_law_walk" = true) (k34 : PySem.W.keepIn K (.ref f34) = true)
    (a35 : PySem.W.nsIn K mainGlobals "_law_forbidden" = some (some (.ref f35)))
    (l35 : K.lookup f35 = some ⟨oc35, od35, .func (PySem.W.fnOf "_law_forbidden" "_law_forbidden" (defArgs s_l_forbidden) (defBody s_l_forbidden) (defScope s_l_forbidden) .none kV35 dc35 pm35 an35 cd35 ct35), sl35⟩) (c35 : PySem.W.codeIn K cd35 "_law_forbidden" = true) (k35 : PySem.W.keepIn K (.ref f35) = true)
    (a36 : PySem.W.nsIn K mainGlobals "_law_first" = some (some (.ref f36)))
    (l36 : K.lookup f36 = some ⟨oc36, od36, .func (PySem.W.fnOf "_law_first" "_law_first" (defArgs s_l_first) (defBody s_l_first) (defScope s_l_first) .none kV36 dc36 pm36 an36 cd36 ct36), sl36⟩) (c36 : PySem.W.codeIn K cd36 "_law_first" = true) (k36 : PySem.W.keepIn K (.ref f36) = true)
    (a37 : PySem.W.nsIn K mainGlobals "_law_refused" = some (some (.ref f37)))
    (l37 : K.lookup f37 = some ⟨oc37, od37, .func (PySem.W.fnOf "_law_refused" "_law_refused" (defArgs s_l_refused) (defBody s_l_refused) (defScope s_l_refused) .none kV37 dc37 pm37 an37 cd37 ct37), sl37⟩) (c37 : PySem.W.codeIn K cd37 "_law_refused" = true) (k37 : PySem.W.keepIn K (.ref f37) = true)
    (a38 : PySem.W.nsIn K mainGlobals "_law_spoilt" = some (some (.ref f38)))
    (l38 : K.lookup f38 = some ⟨oc38, od38, .func (PySem.W.fnOf "_law_spoilt" "_law_spoilt" (defArgs s_l_spoilt) (defBody s_l_spoilt) (defScope s_l_spoilt) .none kV38 dc38 pm38 an38 cd38 ct38), sl38⟩) (c38 : PySem.W.codeIn K cd38 "_law_spoilt" = true) (k38 : PySem.W.keepIn K (.ref f38) = true)
    (a39 : PySem.W.nsIn K mainGlobals "_law_book" = some (some (.ref f39)))
    (l39 : K.lookup f39 = some ⟨oc39, od39, .func (PySem.W.fnOf "_law_book" "_law_book" (defArgs s_l_book) (defBody s_l_book) (defScope s_l_book) .none kV39 dc39 pm39 an39 cd39 ct39), sl39⟩) (c39 : PySem.W.codeIn K cd39 "_law_book" = true) (k39 : PySem.W.keepIn K (.ref f39) = true)
    (a40 : PySem.W.nsIn K mainGlobals "law" = some (some (.ref f40)))
    (l40 : K.lookup f40 = some ⟨oc40, od40, .func (PySem.W.fnOf "law" "law" (defArgs s_law) (defBody s_law) (defScope s_law) .none kV40 dc40 pm40 an40 cd40 ct40), sl40⟩) (c40 : PySem.W.codeIn K cd40 "law" = true) (k40 : PySem.W.keepIn K (.ref f40) = true)
    (l41 : K.lookup f41 = some ⟨oc41, od41, .func (PySem.W.fnOf "__iter__" "Galley.__iter__" (defArgs s_Galley_iter) (defBody s_Galley_iter) (defScope s_Galley_iter) .none kV41 dc41 pm41 an41 cd41 ct41), sl41⟩) (c41 : PySem.W.codeIn K cd41 "Galley.__iter__" = true) (k41 : PySem.W.keepIn K (.ref f41) = true)
    (z_bool : PySem.W.nsIn K mainGlobals "bool" = some none)
    (z_enumerate : PySem.W.nsIn K mainGlobals "enumerate" = some none)
    (z_int : PySem.W.nsIn K mainGlobals "int" = some none)
    (z_isinstance : PySem.W.nsIn K mainGlobals "isinstance" = some none)
    (z_iter : PySem.W.nsIn K mainGlobals "iter" = some none)
    (z_len : PySem.W.nsIn K mainGlobals "len" = some none)
    (z_list : PySem.W.nsIn K mainGlobals "list" = some none)
    (z_max : PySem.W.nsIn K mainGlobals "max" = some none)
    (z_range : PySem.W.nsIn K mainGlobals "range" = some none)
    (z_str : PySem.W.nsIn K mainGlobals "str" = some none)
    (z_sum : PySem.W.nsIn K mainGlobals "sum" = some none)
    (z_tuple : PySem.W.nsIn K mainGlobals "tuple" = some none)
    (z_zip : PySem.W.nsIn K mainGlobals "zip" = some none)
    (y_LEAST : PySem.W.nsIn K mainGlobals "LEAST" = some (some (.ref kA_LEAST_0)))
    (kl_LEAST_0 : K.lookup kA_LEAST_0 = some ⟨.type "tuple", kod_LEAST_0, .seq #[.int (1) kt_LEAST_0_0, .int (1) kt_LEAST_0_1, .int (0) kt_LEAST_0_2, .int (0) kt_LEAST_0_3, .int (0) kt_LEAST_0_4, .int (0) kt_LEAST_0_5, .int (0) kt_LEAST_0_6, .int (0) kt_LEAST_0_7, .int (1) kt_LEAST_0_8, .int (0) kt_LEAST_0_9] kn_LEAST_0, ksl_LEAST_0⟩)
    (y_MOST : PySem.W.nsIn K mainGlobals "MOST" = some (some (.ref kA_MOST_0)))
    (kl_MOST_0 : K.lookup kA_MOST_0 = some ⟨.type "tuple", kod_MOST_0, .seq #[.int (2000) kt_MOST_0_0, .int (2000) kt_MOST_0_1, .int (2000) kt_MOST_0_2, .int (2000) kt_MOST_0_3, .int (2000) kt_MOST_0_4, .int (2000) kt_MOST_0_5, .int (2000) kt_MOST_0_6, .int (2000) kt_MOST_0_7, .int (4) kt_MOST_0_8, .int (40) kt_MOST_0_9] kn_MOST_0, ksl_MOST_0⟩)
    (y_MOST_FIGURES : PySem.W.nsIn K mainGlobals "MOST_FIGURES" = some (some (.int 4 t_MOST_FIGURES)))
    (y_MOST_PIECES : PySem.W.nsIn K mainGlobals "MOST_PIECES" = some (some (.int 40 t_MOST_PIECES)))
    (y_START : PySem.W.nsIn K mainGlobals "START" = some (some (.ref kA_START_0)))
    (kl_START_0 : K.lookup kA_START_0 = some ⟨.type "tuple", kod_START_0, .seq #[.int (0) kt_START_0_0, .int (0) kt_START_0_1, .int (0) kt_START_0_2, .bool false] kn_START_0, ksl_START_0⟩)
    (x_BadBook : PySem.W.nsIn K mainGlobals "BadBook" = some (some (.ref A_BadBook)))
    (x_BadLaying : PySem.W.nsIn K mainGlobals "BadLaying" = some (some (.ref A_BadLaying)))
    (x_LaidError : PySem.W.nsIn K mainGlobals "LaidError" = some (some (.ref A_LaidError)))
    (x_NoSuchNumber : PySem.W.nsIn K mainGlobals "NoSuchNumber" = some (some (.ref A_NoSuchNumber)))
    (x_TooLarge : PySem.W.nsIn K mainGlobals "TooLarge" = some (some (.ref A_TooLarge)))
    (X1_BadBook : K.lookup A_BadBook = some (excClassObj nm_BadBook qq_BadBook A_BadBook N_BadBook bs_BadBook bm_BadBook true sn_BadBook sb_BadBook ab_BadBook co_BadBook dd_BadBook m0_BadBook m1_BadBook m2_BadBook m3_BadBook m5_BadBook "ValueError.__new__")) (X2_BadBook : PySem.HandSPX.refsVE bm_BadBook = true)
    (X3_BadBook : PySem.W.findIn K (.ref A_BadBook) "__setattr__" = some (some (.builtin "object.__setattr__"))) (X4_BadBook : PySem.W.subIn K (.ref A_BadBook) (.type "BaseException") = some true) (X5_BadBook : PySem.W.typeIn K (.ref A_BadBook) = some (.type "type")) (X6_BadBook : PySem.W.keepIn K (.ref A_BadBook) = true)
    (X7_BadBook : PySem.W.findIn K (.ref A_BadBook) "__init__" = some (some (.ref fI_BadBook))) (X8_BadBook : PySem.W.typeIn K (.ref fI_BadBook) = some (.type "function")) (X9_BadBook : K.lookup fI_BadBook = some ⟨oc_BadBook, od_BadBook, .func (PySem.W.fnOf "__init__" "BadBook.__init__" (defArgs s_BadBook) (defBody s_BadBook) (defScope s_BadBook) .none kV_BadBook dc_BadBook pm_BadBook an_BadBook cd_BadBook ct_BadBook), sl_BadBook⟩) (Xa_BadBook : PySem.W.codeIn K cd_BadBook "BadBook.__init__" = true) (Xb_BadBook : PySem.W.keepIn K (.ref fI_BadBook) = true)
    (Y0_BadBook : PySem.W.findIn K (.ref A_BadBook) "field" = some none)
    (Xc_BadBook : PySem.W.findIn K (.ref A_BadBook) "__getattribute__" = some (some (.builtin "BaseException.__getattribute__"))) (Xd_BadBook : PySem.W.findIn K (.ref A_BadBook) "__getattr__" = some none) (Xe_BadBook : PySem.W.hasDictIn K A_BadBook = true)
    (Xf_BadBook : PySem.W.findIn K (.ref A_BadBook) "__class__" = some (some (.builtin "object.__class__"))) (Xg_BadBook : PySem.W.specialIn K (.builtin "object.__class__") "__get__" = some (some (.builtin "getset_descriptor.__get__"))) (Xh_BadBook : PySem.W.takesIn K (.builtin "object.__class__") = some true) (Xi_BadBook : PySem.W.mroIn K A_BadBook (.type "object") = some true)
    (E_BadBook_BadLaying : PySem.W.exmOne K (.ref A_BadBook) (.ref A_BadLaying) = some false)
    (Q_BadBook_LaidError : PySem.W.kitOne K (.ref A_BadBook) (.ref A_LaidError) = some true)
    (X1_BadLaying : K.lookup A_BadLaying = some (excClassObj nm_BadLaying qq_BadLaying A_BadLaying N_BadLaying bs_BadLaying bm_BadLaying true sn_BadLaying sb_BadLaying ab_BadLaying co_BadLaying dd_BadLaying m0_BadLaying m1_BadLaying m2_BadLaying m3_BadLaying m5_BadLaying "ValueError.__new__")) (X2_BadLaying : PySem.HandSPX.refsVE bm_BadLaying = true)
    (X3_BadLaying : PySem.W.findIn K (.ref A_BadLaying) "__setattr__" = some (some (.builtin "object.__setattr__"))) (X4_BadLaying : PySem.W.subIn K (.ref A_BadLaying) (.type "BaseException") = some true) (X5_BadLaying : PySem.W.typeIn K (.ref A_BadLaying) = some (.type "type")) (X6_BadLaying : PySem.W.keepIn K (.ref A_BadLaying) = true)
    (X7_BadLaying : PySem.W.findIn K (.ref A_BadLaying) "__init__" = some (some (.ref fI_BadLaying))) (X8_BadLaying : PySem.W.typeIn K (.ref fI_BadLaying) = some (.type "function")) (X9_BadLaying : K.lookup fI_BadLaying = some ⟨oc_BadLaying, od_BadLaying, .func (PySem.W.fnOf "__init__" "BadLaying.__init__" (defArgs s_BadLaying) (defBody s_BadLaying) (defScope s_BadLaying) .none kV_BadLaying dc_BadLaying pm_BadLaying an_BadLaying cd_BadLaying ct_BadLaying), sl_BadLaying⟩) (Xa_BadLaying : PySem.W.codeIn K cd_BadLaying "BadLaying.__init__" = true) (Xb_BadLaying : PySem.W.keepIn K (.ref fI_BadLaying) = true)
    (Y0_BadLaying : PySem.W.findIn K (.ref A_BadLaying) "step" = some none)
    (Xc_BadLaying : PySem.W.findIn K (.ref A_BadLaying) "__getattribute__" = some (some (.builtin "BaseException.__getattribute__"))) (Xd_BadLaying : PySem.W.findIn K (.ref A_BadLaying) "__getattr__" = some none) (Xe_BadLaying : PySem.W.hasDictIn K A_BadLaying = true)
    (Xf_BadLaying : PySem.W.findIn K (.ref A_BadLaying) "__class__" = some (some (.builtin "object.__class__"))) (Xg_BadLaying : PySem.W.specialIn K (.builtin "object.__class__") "__get__" = some (some (.builtin "getset_descriptor.__get__"))) (Xh_BadLaying : PySem.W.takesIn K (.builtin "object.__class__") = some true) (Xi_BadLaying : PySem.W.mroIn K A_BadLaying (.type "object") = some true)
    (E_BadLaying_BadLaying : PySem.W.exmOne K (.ref A_BadLaying) (.ref A_BadLaying) = some true)
    (Q_BadLaying_LaidError : PySem.W.kitOne K (.ref A_BadLaying) (.ref A_LaidError) = some true)
    (X1_NoSuchNumber : K.lookup A_NoSuchNumber = some (excClassObj nm_NoSuchNumber qq_NoSuchNumber A_NoSuchNumber N_NoSuchNumber bs_NoSuchNumber bm_NoSuchNumber true sn_NoSuchNumber sb_NoSuchNumber ab_NoSuchNumber co_NoSuchNumber dd_NoSuchNumber m0_NoSuchNumber m1_NoSuchNumber m2_NoSuchNumber m3_NoSuchNumber m5_NoSuchNumber "ValueError.__new__")) (X2_NoSuchNumber : PySem.HandSPX.refsVE bm_NoSuchNumber = true)
    (X3_NoSuchNumber : PySem.W.findIn K (.ref A_NoSuchNumber) "__setattr__" = some (some (.builtin "object.__setattr__"))) (X4_NoSuchNumber : PySem.W.subIn K (.ref A_NoSuchNumber) (.type "BaseException") = some true) (X5_NoSuchNumber : PySem.W.typeIn K (.ref A_NoSuchNumber) = some (.type "type")) (X6_NoSuchNumber : PySem.W.keepIn K (.ref A_NoSuchNumber) = true)
    (X7_NoSuchNumber : PySem.W.findIn K (.ref A_NoSuchNumber) "__init__" = some (some (.ref fI_NoSuchNumber))) (X8_NoSuchNumber : PySem.W.typeIn K (.ref fI_NoSuchNumber) = some (.type "function")) (X9_NoSuchNumber : K.lookup fI_NoSuchNumber = some ⟨oc_NoSuchNumber, od_NoSuchNumber, .func (PySem.W.fnOf "__init__" "NoSuchNumber.__init__" (defArgs s_NoSuchNumber) (defBody s_NoSuchNumber) (defScope s_NoSuchNumber) .none kV_NoSuchNumber dc_NoSuchNumber pm_NoSuchNumber an_NoSuchNumber cd_NoSuchNumber ct_NoSuchNumber), sl_NoSuchNumber⟩) (Xa_NoSuchNumber : PySem.W.codeIn K cd_NoSuchNumber "NoSuchNumber.__init__" = true) (Xb_NoSuchNumber : PySem.W.keepIn K (.ref fI_NoSuchNumber) = true)
    (Y0_NoSuchNumber : PySem.W.findIn K (.ref A_NoSuchNumber) "number" = some none)
    (Xc_NoSuchNumber : PySem.W.findIn K (.ref A_NoSuchNumber) "__getattribute__" = some (some (.builtin "BaseException.__getattribute__"))) (Xd_NoSuchNumber : PySem.W.findIn K (.ref A_NoSuchNumber) "__getattr__" = some none) (Xe_NoSuchNumber : PySem.W.hasDictIn K A_NoSuchNumber = true)
    (Xf_NoSuchNumber : PySem.W.findIn K (.ref A_NoSuchNumber) "__class__" = some (some (.builtin "object.__class__"))) (Xg_NoSuchNumber : PySem.W.specialIn K (.builtin "object.__class__") "__get__" = some (some (.builtin "getset_descriptor.__get__"))) (Xh_NoSuchNumber : PySem.W.takesIn K (.builtin "object.__class__") = some true) (Xi_NoSuchNumber : PySem.W.mroIn K A_NoSuchNumber (.type "object") = some true)
    (E_NoSuchNumber_BadLaying : PySem.W.exmOne K (.ref A_NoSuchNumber) (.ref A_BadLaying) = some false)
    (Q_NoSuchNumber_LaidError : PySem.W.kitOne K (.ref A_NoSuchNumber) (.ref A_LaidError) = some true)
    (X1_TooLarge : K.lookup A_TooLarge = some (excClassObj nm_TooLarge qq_TooLarge A_TooLarge N_TooLarge bs_TooLarge bm_TooLarge true sn_TooLarge sb_TooLarge ab_TooLarge co_TooLarge dd_TooLarge m0_TooLarge m1_TooLarge m2_TooLarge m3_TooLarge m5_TooLarge "ValueError.__new__")) (X2_TooLarge : PySem.HandSPX.refsVE bm_TooLarge = true)
    (X3_TooLarge : PySem.W.findIn K (.ref A_TooLarge) "__setattr__" = some (some (.builtin "object.__setattr__"))) (X4_TooLarge : PySem.W.subIn K (.ref A_TooLarge) (.type "BaseException") = some true) (X5_TooLarge : PySem.W.typeIn K (.ref A_TooLarge) = some (.type "type")) (X6_TooLarge : PySem.W.keepIn K (.ref A_TooLarge) = true)
    (X7_TooLarge : PySem.W.findIn K (.ref A_TooLarge) "__init__" = some (some (.ref fI_TooLarge))) (X8_TooLarge : PySem.W.typeIn K (.ref fI_TooLarge) = some (.type "function")) (X9_TooLarge : K.lookup fI_TooLarge = some ⟨oc_TooLarge, od_TooLarge, .func (PySem.W.fnOf "__init__" "TooLarge.__init__" (defArgs s_TooLarge) (defBody s_TooLarge) (defScope s_TooLarge) .none kV_TooLarge dc_TooLarge pm_TooLarge an_TooLarge cd_TooLarge ct_TooLarge), sl_TooLarge⟩) (Xa_TooLarge : PySem.W.codeIn K cd_TooLarge "TooLarge.__init__" = true) (Xb_TooLarge : PySem.W.keepIn K (.ref fI_TooLarge) = true)
    (Y0_TooLarge : PySem.W.findIn K (.ref A_TooLarge) "many" = some none)
    (Xc_TooLarge : PySem.W.findIn K (.ref A_TooLarge) "__getattribute__" = some (some (.builtin "BaseException.__getattribute__"))) (Xd_TooLarge : PySem.W.findIn K (.ref A_TooLarge) "__getattr__" = some none) (Xe_TooLarge : PySem.W.hasDictIn K A_TooLarge = true)
    (Xf_TooLarge : PySem.W.findIn K (.ref A_TooLarge) "__class__" = some (some (.builtin "object.__class__"))) (Xg_TooLarge : PySem.W.specialIn K (.builtin "object.__class__") "__get__" = some (some (.builtin "getset_descriptor.__get__"))) (Xh_TooLarge : PySem.W.takesIn K (.builtin "object.__class__") = some true) (Xi_TooLarge : PySem.W.mroIn K A_TooLarge (.type "object") = some true)
    (E_TooLarge_BadLaying : PySem.W.exmOne K (.ref A_TooLarge) (.ref A_BadLaying) = some false)
    (Q_TooLarge_LaidError : PySem.W.kitOne K (.ref A_TooLarge) (.ref A_LaidError) = some true)
    (x_Book : PySem.W.nsIn K mainGlobals "Book" = some (some (.ref A_Book))) (P1_Book : PySem.W.plainGet K A_Book Str.empty = true) (P2_Book : PySem.W.hasDictIn K A_Book = true) (P3_Book : PySem.W.plainOver K A_Book = true) (P4_Book : PySem.W.findIn K (.ref A_Book) "__setattr__" = some (some (.builtin "object.__setattr__")))
    (x_Galley : PySem.W.nsIn K mainGlobals "Galley" = some (some (.ref A_Galley))) (P1_Galley : PySem.W.plainGet K A_Galley Str.empty = true) (P2_Galley : PySem.W.hasDictIn K A_Galley = true) (P3_Galley : PySem.W.plainOver K A_Galley = true) (P4_Galley : PySem.W.findIn K (.ref A_Galley) "__setattr__" = some (some (.builtin "object.__setattr__")))
    (M1_Book : PySem.W.makesIn K A_Book = true) (M2_Book : PySem.W.findIn K (.ref A_Book) "__init__" = some (some (.ref f20))) (M3_Book : PySem.W.isFn K (.ref f20) = true) (M4_Book : PySem.W.keepIn K (.ref A_Book) = true)
    (M1_Galley : PySem.W.makesIn K A_Galley = true) (M2_Galley : PySem.W.findIn K (.ref A_Galley) "__init__" = some (some (.ref f24))) (M3_Galley : PySem.W.isFn K (.ref f24) = true) (M4_Galley : PySem.W.keepIn K (.ref A_Galley) = true)
    (N_Book_columns : PySem.W.findIn K (.ref A_Book) "columns" = some none)
    (N_Book_field_values : PySem.W.findIn K (.ref A_Book) "field_values" = some none)
    (N_Book_full : PySem.W.findIn K (.ref A_Book) "full" = some none)
    (N_Book_gutter : PySem.W.findIn K (.ref A_Book) "gutter" = some none)
    (N_Book_height : PySem.W.findIn K (.ref A_Book) "height" = some none)
    (N_Book_joint : PySem.W.findIn K (.ref A_Book) "joint" = some none)
    (N_Book_keep : PySem.W.findIn K (.ref A_Book) "keep" = some none)
    (N_Book_orphan : PySem.W.findIn K (.ref A_Book) "orphan" = some none)
    (N_Book_over : PySem.W.findIn K (.ref A_Book) "over" = some none)
    (N_Book_room : PySem.W.findIn K (.ref A_Book) "room" = some none)
    (N_Book_wait : PySem.W.findIn K (.ref A_Book) "wait" = some none)
    (N_Book_widow : PySem.W.findIn K (.ref A_Book) "widow" = some none)
    (N_Galley_all_figures : PySem.W.findIn K (.ref A_Galley) "all_figures" = some none)
    (N_Galley_all_pieces : PySem.W.findIn K (.ref A_Galley) "all_pieces" = some none)
    (N_Galley_blocks : PySem.W.findIn K (.ref A_Galley) "blocks" = some none)
    (N_Galley_spans : PySem.W.findIn K (.ref A_Galley) "spans" = some none)
    (m1_Galley___iter__ : PySem.W.findIn K (.ref A_Galley) "__iter__" = some (some (.ref f41))) (m2_Galley___iter__ : PySem.W.isFn K (.ref f41) = true)
    (m1_Galley___len__ : PySem.W.findIn K (.ref A_Galley) "__len__" = some (some (.ref f12))) (m2_Galley___len__ : PySem.W.isFn K (.ref f12) = true)
    (m1_Galley_block_at : PySem.W.findIn K (.ref A_Galley) "block_at" = some (some (.ref f1))) (m2_Galley_block_at : PySem.W.isFn K (.ref f1) = true)
    (p1_Galley_figures : PySem.W.findIn K (.ref A_Galley) "figures" = some (some (.ref pp_Galley_figures))) (p2_Galley_figures : PySem.W.recIn K pp_Galley_figures "property" = some (.ref f10 :: pq_Galley_figures)) (p3_Galley_figures : PySem.W.specialIn K (.ref pp_Galley_figures) "__get__" = some (some (.builtin "property.__get__"))) (p4_Galley_figures : PySem.W.takesIn K (.ref pp_Galley_figures) = some true)
    (p1_Galley_pieces : PySem.W.findIn K (.ref A_Galley) "pieces" = some (some (.ref pp_Galley_pieces))) (p2_Galley_pieces : PySem.W.recIn K pp_Galley_pieces "property" = some (.ref f0 :: pq_Galley_pieces)) (p3_Galley_pieces : PySem.W.specialIn K (.ref pp_Galley_pieces) "__get__" = some (some (.builtin "property.__get__"))) (p4_Galley_pieces : PySem.W.takesIn K (.ref pp_Galley_pieces) = some true)
    (R1_Book : PySem.W.readsIn K A_Book (.type "type") = true) (R2_Book : PySem.W.specialIn K (.ref A_Book) "__getattribute__" = some (some (.builtin "type.__getattribute__")))
    (V_Book_FIELDS : PySem.W.findCls K (.ref A_Book) (.type "type") "FIELDS" = some (.val (.ref kA_Book_FIELDS_0)))
    (kl_Book_FIELDS_0 : K.lookup kA_Book_FIELDS_0 = some ⟨.type "tuple", kod_Book_FIELDS_0, .seq #[.str "room" kt_Book_FIELDS_0_0, .str "height" kt_Book_FIELDS_0_1, .str "joint" kt_Book_FIELDS_0_2, .str "over" kt_Book_FIELDS_0_3, .str "keep" kt_Book_FIELDS_0_4, .str "orphan" kt_Book_FIELDS_0_5, .str "widow" kt_Book_FIELDS_0_6, .str "wait" kt_Book_FIELDS_0_7, .str "columns" kt_Book_FIELDS_0_8, .str "gutter" kt_Book_FIELDS_0_9, .str "full" kt_Book_FIELDS_0_10] kn_Book_FIELDS_0, ksl_Book_FIELDS_0⟩) : ∃ T : Txt K mg, T.f_law = f40 ∧ T.fd_law = PySem.W.fnOf "law" "law" (defArgs s_law) (defBody s_law) (defScope s_law) .none kV40 dc40 pm40 an40 cd40 ct40 := by
  have F0 := fun_mk (st := s_Galley_pieces) l0 c0 k0
  have b0 := F0.binds (ps := ["self"]) fun _ _ _ _ _ _ us hl => match us, hl with | [_], _ => rfl
  have F1 := fun_mk (st := s_Galley_block_at) l1 c1 k1
  have b1 := F1.binds (ps := ["self", "piece"]) fun _ _ _ _ _ _ us hl => match us, hl with | [_, _], _ => rfl
  have F2 := fun_mk (st := s_bare_width) l2 c2 k2
  have b2 := F2.binds (ps := ["galley", "start", "end"]) fun _ _ _ _ _ _ us hl => match us, hl with | [_, _, _], _ => rfl
  have F3 := fun_mk (st := s_line_width) l3 c3 k3
  have b3 := F3.binds (ps := ["galley", "start", "end"]) fun _ _ _ _ _ _ us hl => match us, hl with | [_, _, _], _ => rfl
  have F4 := fun_mk (st := s_line_gap) l4 c4 k4
  have b4 := F4.binds (ps := ["galley", "book", "start", "end"]) fun _ _ _ _ _ _ us hl => match us, hl with | [_, _, _, _], _ => rfl
  have F5 := fun_mk (st := s_line_cost) l5 c5 k5
  have b5 := F5.binds (ps := ["galley", "book", "start", "end"]) fun _ _ _ _ _ _ us hl => match us, hl with | [_, _, _, _], _ => rfl
  have F6 := fun_mk (st := s_line_ends) l6 c6 k6
  have b6 := F6.binds (ps := ["galley", "book", "start"]) fun _ _ _ _ _ _ us hl => match us, hl with | [_, _, _], _ => rfl
  have F7 := fun_mk (st := s_line_need) l7 c7 k7
  have b7 := F7.binds (ps := ["galley", "start", "end"]) fun _ _ _ _ _ _ us hl => match us, hl with | [_, _, _], _ => rfl
  have F8 := fun_mk (st := s_turn_cost) l8 c8 k8
  have b8 := F8.binds (ps := ["galley", "book", "state", "end"]) fun _ _ _ _ _ _ us hl => match us, hl with | [_, _, _, _], _ => rfl
  have F9 := fun_mk (st := s_called_ahead) l9 c9 k9
  have b9 := F9.binds (ps := ["galley", "done"]) fun _ _ _ _ _ _ us hl => match us, hl with | [_, _], _ => rfl
  have F10 := fun_mk (st := s_Galley_figures) l10 c10 k10
  have b10 := F10.binds (ps := ["self"]) fun _ _ _ _ _ _ us hl => match us, hl with | [_], _ => rfl
  have F11 := fun_mk (st := s_moves_to) l11 c11 k11
  have b11 := F11.binds (ps := ["galley", "book", "state", "end"]) fun _ _ _ _ _ _ us hl => match us, hl with | [_, _, _, _], _ => rfl
  have F12 := fun_mk (st := s_Galley_len) l12 c12 k12
  have b12 := F12.binds (ps := ["self"]) fun _ _ _ _ _ _ us hl => match us, hl with | [_], _ => rfl
  have F13 := fun_mk (st := s_moves_of) l13 c13 k13
  have b13 := F13.binds (ps := ["galley", "book", "state"]) fun _ _ _ _ _ _ us hl => match us, hl with | [_, _, _], _ => rfl
  have F14 := fun_mk (st := s_made_moves) l14 c14 k14
  have b14 := F14.binds (ps := ["galley", "book", "laying"]) fun _ _ _ _ _ _ us hl => match us, hl with | [_, _, _], _ => rfl
  have F15 := fun_mk (st := s_states_of) l15 c15 k15
  have b15 := F15.binds (ps := ["galley", "book", "laying"]) fun _ _ _ _ _ _ us hl => match us, hl with | [_, _, _], _ => rfl
  have F16 := fun_mk (st := s_is_forbidden) l16 c16 k16
  have b16 := F16.binds (ps := ["galley", "book", "promise", "state", "step", "after"]) fun _ _ _ _ _ _ us hl => match us, hl with | [_, _, _, _, _, _], _ => rfl
  have F17 := fun_mk (st := s_broken_at) l17 c17 k17
  have b17 := F17.binds (ps := ["galley", "book", "laying", "promise"]) fun _ _ _ _ _ _ us hl => match us, hl with | [_, _, _, _], _ => rfl
  have F18 := fun_mk (st := s_is_number) l18 c18 k18
  have b18 := F18.binds (ps := ["value"]) fun _ _ _ _ _ _ us hl => match us, hl with | [_], _ => rfl
  have F19 := fun_mk (st := s_is_within) l19 c19 k19
  have b19 := F19.binds (ps := ["value", "least", "most"]) fun _ _ _ _ _ _ us hl => match us, hl with | [_, _, _], _ => rfl
  have F20 := fun_mk (st := s_Book_init) l20 c20 k20
  have b20 := kbn_k (K := K) (fd := PySem.W.fnOf "__init__" "Book.__init__" (defArgs s_Book_init) (defBody s_Book_init) (defScope s_Book_init) .none (.ref kwD20) dc20 pm20 an20 cd20 ct20) (D0 := kwD20) (ps := ["self", "room", "height", "joint", "over", "keep", "orphan", "widow", "wait", "columns", "gutter", "full"]) (ks := ["joint", "over", "keep", "orphan", "widow", "wait"]) (names := ["columns", "gutter", "full"]) (mv := [.int (1) kwt20_0, .int (1) kwt20_1, .bool false]) (dvs := [.int 1, .int 1, .bl false]) 3 (.cons ⟨_, rfl⟩ (.cons ⟨_, rfl⟩ (.cons rfl .nil))) (by intro q hq; simp only [List.zip_cons_cons, List.zip_nil_left, List.zip_nil_right, List.mem_cons, List.not_mem_nil, or_false] at hq; rcases hq with rfl | rfl | rfl <;> first | exact kw20_0 | exact kw20_1 | exact kw20_2) fun us ws h1 h2 => match us, ws, h1, h2 with | [_, _, _], [_, _, _, _, _, _], _, _ => ⟨_, _, _, _, _, _, rfl, rfl, _, _, _, _, _, _, rfl, rfl, _, _, _, _, _, _, rfl, rfl, rfl⟩
  have F21 := fun_mk (st := s_pieces_in) l21 c21 k21
  have b21 := F21.binds (ps := ["blocks"]) fun _ _ _ _ _ _ us hl => match us, hl with | [_], _ => rfl
  have F22 := fun_mk (st := s_figures_in) l22 c22 k22
  have b22 := F22.binds (ps := ["blocks"]) fun _ _ _ _ _ _ us hl => match us, hl with | [_], _ => rfl
  have F23 := fun_mk (st := s_spans_in) l23 c23 k23
  have b23 := F23.binds (ps := ["blocks"]) fun _ _ _ _ _ _ us hl => match us, hl with | [_], _ => rfl
  have F24 := funE_mk (st := s_Galley_init) l24 c24 k24
  have b24 := binds_d (fd := PySem.W.fnOf "__init__" "Galley.__init__" (defArgs s_Galley_init) (defBody s_Galley_init) (defScope s_Galley_init) (.ref dtT24) kV24 dc24 pm24 an24 cd24 ct24) (ps := ["self", "blocks"]) (its := [.ref dtE24]) 2 1 lT24 rfl rfl fun us hl => match us, hl with | [_, _], _ => ⟨_, rfl, rfl⟩
  have bd24 := binds_d (fd := PySem.W.fnOf "__init__" "Galley.__init__" (defArgs s_Galley_init) (defBody s_Galley_init) (defScope s_Galley_init) (.ref dtT24) kV24 dc24 pm24 an24 cd24 ct24) (ps := ["self", "blocks"]) (its := [.ref dtE24]) 1 0 lT24 rfl rfl fun us hl => match us, hl with | [_], _ => ⟨_, rfl, rfl⟩
  have F25 := fun_mk (st := s_l_cell) l25 c25 k25
  have b25 := F25.binds (ps := ["_law_script", "_law_k"]) fun _ _ _ _ _ _ us hl => match us, hl with | [_, _], _ => rfl
  have F26 := fun_mk (st := s_l_row) l26 c26 k26
  have b26 := F26.binds (ps := ["_law_cell_here", "_law_limits"]) fun _ _ _ _ _ _ us hl => match us, hl with | [_, _], _ => rfl
  have F27 := fun_mk (st := s_l_number) l27 c27 k27
  have b27 := F27.binds (ps := ["_law_value"]) fun _ _ _ _ _ _ us hl => match us, hl with | [_], _ => rfl
  have F28 := fun_mk (st := s_l_same) l28 c28 k28
  have b28 := F28.binds (ps := ["_law_one", "_law_two"]) fun _ _ _ _ _ _ us hl => match us, hl with | [_, _], _ => rfl
  have F29 := fun_mk (st := s_l_block) l29 c29 k29
  have b29 := F29.binds (ps := ["_law_cell_here", "_law_many", "_law_scale"]) fun _ _ _ _ _ _ us hl => match us, hl with | [_, _, _], _ => rfl
  have F30 := fun_mk (st := s_l_few) l30 c30 k30
  have b30 := F30.binds (ps := ["_law_blocks"]) fun _ _ _ _ _ _ us hl => match us, hl with | [_], _ => rfl
  have F31 := fun_mk (st := s_l_flat) l31 c31 k31
  have b31 := F31.binds (ps := ["_law_blocks"]) fun _ _ _ _ _ _ us hl => match us, hl with | [_], _ => rfl
  have F32 := fun_mk (st := s_l_width) l32 c32 k32
  have b32 := F32.binds (ps := ["_law_blocks", "_law_flat_here", "_law_start", "_law_end"]) fun _ _ _ _ _ _ us hl => match us, hl with | [_, _, _, _], _ => rfl
  have F33 := fun_mk (st := s_l_moves) l33 c33 k33
  have b33 := F33.binds (ps := ["_law_blocks", "_law_flat_here", "_law_nums", "_law_state"]) fun _ _ _ _ _ _ us hl => match us, hl with | [_, _, _, _], _ => rfl
  have F34 := fun_mk (st := s_l_walk) l34 c34 k34
  have b34 := F34.binds (ps := ["_law_blocks", "_law_flat_here", "_law_nums", "_law_picks"]) fun _ _ _ _ _ _ us hl => match us, hl with | [_, _, _, _], _ => rfl
  have F35 := fun_mk (st := s_l_forbidden) l35 c35 k35
  have b35 := F35.binds (ps := ["_law_blocks", "_law_flat_here", "_law_nums", "_law_promise", "_law_state", "_law_step", "_law_after"]) fun _ _ _ _ _ _ us hl => match us, hl with | [_, _, _, _, _, _, _], _ => rfl
  have F36 := fun_mk (st := s_l_first) l36 c36 k36
  have b36 := F36.binds (ps := ["_law_blocks", "_law_flat_here", "_law_nums", "_law_promise", "_law_made"]) fun _ _ _ _ _ _ us hl => match us, hl with | [_, _, _, _, _], _ => rfl
  have F37 := fun_mk (st := s_l_refused) l37 c37 k37
  have b37 := F37.binds (ps := ["_law_galley", "_law_book_here", "_law_laying", "_law_promise", "_law_index"]) fun _ _ _ _ _ _ us hl => match us, hl with | [_, _, _, _, _], _ => rfl
  have F38 := fun_mk (st := s_l_spoilt) l38 c38 k38
  have b38 := F38.binds (ps := ["_law_steps", "_law_many", "_law_way", "_law_at"]) fun _ _ _ _ _ _ us hl => match us, hl with | [_, _, _, _], _ => rfl
  have F39 := fun_mk (st := s_l_book) l39 c39 k39
  have b39 := F39.binds (ps := ["_law_nums"]) fun _ _ _ _ _ _ us hl => match us, hl with | [_], _ => rfl
  have F40 := fun_mk (st := s_law) l40 c40 k40
  have b40 := F40.binds (ps := ["_law_script"]) fun _ _ _ _ _ _ us hl => match us, hl with | [_], _ => rfl
  have F41 := fun_mk (st := s_Galley_iter) l41 c41 k41
  have b41 := F41.binds (ps := ["self"]) fun _ _ _ _ _ _ us hl => match us, hl with | [_], _ => rfl
  have FI_BadBook := fun_mk (st := s_BadBook) X9_BadBook Xa_BadBook Xb_BadBook
  have bI_BadBook := FI_BadBook.binds (ps := ["self", "field"]) fun _ _ _ _ _ _ us hl => match us, hl with | [_, _], _ => rfl
  have FI_BadLaying := fun_mk (st := s_BadLaying) X9_BadLaying Xa_BadLaying Xb_BadLaying
  have bI_BadLaying := FI_BadLaying.binds (ps := ["self", "step"]) fun _ _ _ _ _ _ us hl => match us, hl with | [_, _], _ => rfl
  have FI_NoSuchNumber := fun_mk (st := s_NoSuchNumber) X9_NoSuchNumber Xa_NoSuchNumber Xb_NoSuchNumber
  have bI_NoSuchNumber := FI_NoSuchNumber.binds (ps := ["self", "number"]) fun _ _ _ _ _ _ us hl => match us, hl with | [_, _], _ => rfl
  have FI_TooLarge := fun_mk (st := s_TooLarge) X9_TooLarge Xa_TooLarge Xb_TooLarge
  have bI_TooLarge := FI_TooLarge.binds (ps := ["self", "many"]) fun _ _ _ _ _ _ us hl => match us, hl with | [_, _], _ => rfl
  exact ⟨⟨f0, _, F0, b0, f1, _, F1, b1, f2, _, F2, PySem.W.mg_of X G a2, b2, f3, _, F3, PySem.W.mg_of X G a3, b3, f4, _, F4, PySem.W.mg_of X G a4, b4, f5, _, F5, PySem.W.mg_of X G a5, b5, f6, _, F6, PySem.W.mg_of X G a6, b6, f7, _, F7, PySem.W.mg_of X G a7, b7, f8, _, F8, PySem.W.mg_of X G a8, b8, f9, _, F9, PySem.W.mg_of X G a9, b9, f10, _, F10, b10, f11, _, F11, PySem.W.mg_of X G a11, b11, f12, _, F12, b12, f13, _, F13, PySem.W.mg_of X G a13, b13, f14, _, F14, PySem.W.mg_of X G a14, b14, f15, _, F15, PySem.W.mg_of X G a15, b15, f16, _, F16, PySem.W.mg_of X G a16, b16, f17, _, F17, PySem.W.mg_of X G a17, b17, f18, _, F18, PySem.W.mg_of X G a18, b18, f19, _, F19, PySem.W.mg_of X G a19, b19, f20, _, F20, [.int (1) kwt20_0, .int (1) kwt20_1, .bool false], b20, f21, _, F21, PySem.W.mg_of X G a21, b21, f22, _, F22, PySem.W.mg_of X G a22, b22, f23, _, F23, PySem.W.mg_of X G a23, b23, f24, _, F24, b24, dtE24, bd24, (fun S => kt_nil (oc := .none) lE24 S), f25, _, F25, PySem.W.mg_of X G a25, b25, f26, _, F26, PySem.W.mg_of X G a26, b26, f27, _, F27, PySem.W.mg_of X G a27, b27, f28, _, F28, PySem.W.mg_of X G a28, b28, f29, _, F29, PySem.W.mg_of X G a29, b29, f30, _, F30, PySem.W.mg_of X G a30, b30, f31, _, F31, PySem.W.mg_of X G a31, b31, f32, _, F32, PySem.W.mg_of X G a32, b32, f33, _, F33, PySem.W.mg_of X G a33, b33, f34, _, F34, PySem.W.mg_of X G a34, b34, f35, _, F35, PySem.W.mg_of X G a35, b35, f36, _, F36, PySem.W.mg_of X G a36, b36, f37, _, F37, PySem.W.mg_of X G a37, b37, f38, _, F38, PySem.W.mg_of X G a38, b38, f39, _, F39, PySem.W.mg_of X G a39, b39, f40, _, F40, PySem.W.mg_of X G a40, b40, f41, _, F41, b41, PySem.W.mg_none_of X G z_bool, PySem.W.mg_none_of X G z_enumerate, PySem.W.mg_none_of X G z_int, PySem.W.mg_none_of X G z_isinstance, PySem.W.mg_none_of X G z_iter, PySem.W.mg_none_of X G z_len, PySem.W.mg_none_of X G z_list, PySem.W.mg_none_of X G z_max, PySem.W.mg_none_of X G z_range, PySem.W.mg_none_of X G z_str, PySem.W.mg_none_of X G z_sum, PySem.W.mg_none_of X G z_tuple, PySem.W.mg_none_of X G z_zip, kA_LEAST_0, PySem.W.mg_of X G y_LEAST, (fun S => (kt_mk (us := [.int (1) kt_LEAST_0_0, .int (1) kt_LEAST_0_1, .int (0) kt_LEAST_0_2, .int (0) kt_LEAST_0_3, .int (0) kt_LEAST_0_4, .int (0) kt_LEAST_0_5, .int (0) kt_LEAST_0_6, .int (0) kt_LEAST_0_7, .int (1) kt_LEAST_0_8, .int (0) kt_LEAST_0_9]) (xs := [.int (1), .int (1), .int (0), .int (0), .int (0), .int (0), .int (0), .int (0), .int (1), .int (0)]) kl_LEAST_0 (by simp) (.cons ⟨_, rfl⟩ (.cons ⟨_, rfl⟩ (.cons ⟨_, rfl⟩ (.cons ⟨_, rfl⟩ (.cons ⟨_, rfl⟩ (.cons ⟨_, rfl⟩ (.cons ⟨_, rfl⟩ (.cons ⟨_, rfl⟩ (.cons ⟨_, rfl⟩ (.cons ⟨_, rfl⟩ .nil)))))))))) (.cons (.int _) (.cons (.int _) (.cons (.int _) (.cons (.int _) (.cons (.int _) (.cons (.int _) (.cons (.int _) (.cons (.int _) (.cons (.int _) (.cons (.int _) .nil)))))))))))), kA_MOST_0, PySem.W.mg_of X G y_MOST, (fun S => (kt_mk (us := [.int (2000) kt_MOST_0_0, .int (2000) kt_MOST_0_1, .int (2000) kt_MOST_0_2, .int (2000) kt_MOST_0_3, .int (2000) kt_MOST_0_4, .int (2000) kt_MOST_0_5, .int (2000) kt_MOST_0_6, .int (2000) kt_MOST_0_7, .int (4) kt_MOST_0_8, .int (40) kt_MOST_0_9]) (xs := [.int (2000), .int (2000), .int (2000), .int (2000), .int (2000), .int (2000), .int (2000), .int (2000), .int (4), .int (40)]) kl_MOST_0 (by simp) (.cons ⟨_, rfl⟩ (.cons ⟨_, rfl⟩ (.cons ⟨_, rfl⟩ (.cons ⟨_, rfl⟩ (.cons ⟨_, rfl⟩ (.cons ⟨_, rfl⟩ (.cons ⟨_, rfl⟩ (.cons ⟨_, rfl⟩ (.cons ⟨_, rfl⟩ (.cons ⟨_, rfl⟩ .nil)))))))))) (.cons (.int _) (.cons (.int _) (.cons (.int _) (.cons (.int _) (.cons (.int _) (.cons (.int _) (.cons (.int _) (.cons (.int _) (.cons (.int _) (.cons (.int _) .nil)))))))))))), _, PySem.W.mg_of X G y_MOST_FIGURES, _, PySem.W.mg_of X G y_MOST_PIECES, kA_START_0, PySem.W.mg_of X G y_START, (fun S => (kt_mk (us := [.int (0) kt_START_0_0, .int (0) kt_START_0_1, .int (0) kt_START_0_2, .bool false]) (xs := [.int (0), .int (0), .int (0), .bl false]) kl_START_0 (by simp) (.cons ⟨_, rfl⟩ (.cons ⟨_, rfl⟩ (.cons ⟨_, rfl⟩ (.cons rfl .nil)))) (.cons (.int _) (.cons (.int _) (.cons (.int _) (.cons (.bl _) .nil)))))), A_BadBook, PySem.W.mg_of X G x_BadBook, A_BadLaying, PySem.W.mg_of X G x_BadLaying, A_LaidError, PySem.W.mg_of X G x_LaidError, A_NoSuchNumber, PySem.W.mg_of X G x_NoSuchNumber, A_TooLarge, PySem.W.mg_of X G x_TooLarge, ⟨⟨_, _, _, _, _, _, _, _, _, _, _, _, _, _, _, X1_BadBook, X2_BadBook⟩, X3_BadBook, X4_BadBook, X5_BadBook, X6_BadBook⟩, fI_BadBook, _, X7_BadBook, X8_BadBook, FI_BadBook, bI_BadBook, Y0_BadBook, ⟨Xc_BadBook, Xd_BadBook, X4_BadBook, Xe_BadBook⟩, ⟨Xc_BadBook, Xd_BadBook, X4_BadBook, Xe_BadBook, Xf_BadBook, Xg_BadBook, Xh_BadBook, Xi_BadBook⟩, E_BadBook_BadLaying, Q_BadBook_LaidError, ⟨⟨_, _, _, _, _, _, _, _, _, _, _, _, _, _, _, X1_BadLaying, X2_BadLaying⟩, X3_BadLaying, X4_BadLaying, X5_BadLaying, X6_BadLaying⟩, fI_BadLaying, _, X7_BadLaying, X8_BadLaying, FI_BadLaying, bI_BadLaying, Y0_BadLaying, ⟨Xc_BadLaying, Xd_BadLaying, X4_BadLaying, Xe_BadLaying⟩, ⟨Xc_BadLaying, Xd_BadLaying, X4_BadLaying, Xe_BadLaying, Xf_BadLaying, Xg_BadLaying, Xh_BadLaying, Xi_BadLaying⟩, E_BadLaying_BadLaying, Q_BadLaying_LaidError, ⟨⟨_, _, _, _, _, _, _, _, _, _, _, _, _, _, _, X1_NoSuchNumber, X2_NoSuchNumber⟩, X3_NoSuchNumber, X4_NoSuchNumber, X5_NoSuchNumber, X6_NoSuchNumber⟩, fI_NoSuchNumber, _, X7_NoSuchNumber, X8_NoSuchNumber, FI_NoSuchNumber, bI_NoSuchNumber, Y0_NoSuchNumber, ⟨Xc_NoSuchNumber, Xd_NoSuchNumber, X4_NoSuchNumber, Xe_NoSuchNumber⟩, ⟨Xc_NoSuchNumber, Xd_NoSuchNumber, X4_NoSuchNumber, Xe_NoSuchNumber, Xf_NoSuchNumber, Xg_NoSuchNumber, Xh_NoSuchNumber, Xi_NoSuchNumber⟩, E_NoSuchNumber_BadLaying, Q_NoSuchNumber_LaidError, ⟨⟨_, _, _, _, _, _, _, _, _, _, _, _, _, _, _, X1_TooLarge, X2_TooLarge⟩, X3_TooLarge, X4_TooLarge, X5_TooLarge, X6_TooLarge⟩, fI_TooLarge, _, X7_TooLarge, X8_TooLarge, FI_TooLarge, bI_TooLarge, Y0_TooLarge, ⟨Xc_TooLarge, Xd_TooLarge, X4_TooLarge, Xe_TooLarge⟩, ⟨Xc_TooLarge, Xd_TooLarge, X4_TooLarge, Xe_TooLarge, Xf_TooLarge, Xg_TooLarge, Xh_TooLarge, Xi_TooLarge⟩, E_TooLarge_BadLaying, Q_TooLarge_LaidError, A_Book, PySem.W.mg_of X G x_Book, ⟨P1_Book, P2_Book, P3_Book, P4_Book⟩, A_Galley, PySem.W.mg_of X G x_Galley, ⟨P1_Galley, P2_Galley, P3_Galley, P4_Galley⟩, ⟨M1_Book, M2_Book, M3_Book, M4_Book⟩, ⟨M1_Galley, M2_Galley, M3_Galley, M4_Galley⟩, N_Book_columns, N_Book_field_values, N_Book_full, N_Book_gutter, N_Book_height, N_Book_joint, N_Book_keep, N_Book_orphan, N_Book_over, N_Book_room, N_Book_wait, N_Book_widow, N_Galley_all_figures, N_Galley_all_pieces, N_Galley_blocks, N_Galley_spans, ⟨m1_Galley___iter__, m2_Galley___iter__, k41⟩, ⟨m1_Galley___len__, m2_Galley___len__, k12⟩, ⟨m1_Galley_block_at, m2_Galley_block_at, k1⟩, pp_Galley_figures, ⟨p1_Galley_figures, p3_Galley_figures, p4_Galley_figures, ⟨_, p2_Galley_figures⟩⟩, pp_Galley_pieces, ⟨p1_Galley_pieces, p3_Galley_pieces, p4_Galley_pieces, ⟨_, p2_Galley_pieces⟩⟩, ⟨R1_Book, R2_Book⟩, kA_Book_FIELDS_0, (fun S => (kt_mk (us := [.str "room" kt_Book_FIELDS_0_0, .str "height" kt_Book_FIELDS_0_1, .str "joint" kt_Book_FIELDS_0_2, .str "over" kt_Book_FIELDS_0_3, .str "keep" kt_Book_FIELDS_0_4, .str "orphan" kt_Book_FIELDS_0_5, .str "widow" kt_Book_FIELDS_0_6, .str "wait" kt_Book_FIELDS_0_7, .str "columns" kt_Book_FIELDS_0_8, .str "gutter" kt_Book_FIELDS_0_9, .str "full" kt_Book_FIELDS_0_10]) (xs := [.str "room", .str "height", .str "joint", .str "over", .str "keep", .str "orphan", .str "widow", .str "wait", .str "columns", .str "gutter", .str "full"]) kl_Book_FIELDS_0 (by simp) (.cons ⟨_, rfl⟩ (.cons ⟨_, rfl⟩ (.cons ⟨_, rfl⟩ (.cons ⟨_, rfl⟩ (.cons ⟨_, rfl⟩ (.cons ⟨_, rfl⟩ (.cons ⟨_, rfl⟩ (.cons ⟨_, rfl⟩ (.cons ⟨_, rfl⟩ (.cons ⟨_, rfl⟩ (.cons ⟨_, rfl⟩ .nil))))))))))) (.cons (.str _) (.cons (.str _) (.cons (.str _) (.cons (.str _) (.cons (.str _) (.cons (.str _) (.cons (.str _) (.cons (.str _) (.cons (.str _) (.cons (.str _) (.cons (.str _) .nil))))))))))))), ⟨V_Book_FIELDS, rfl⟩⟩, rfl, rfl⟩
def spLaw (K : PySem.W.Frag) : Sp := fun vs H Q _ => ∃ (a : Addr) (ns : List Int), vs = [.ref a] ∧ SqL K H a (ns.map V.int) ∧ ns.length ≤ 63 ∧ ∀ H', Q (.bl true) H'
theorem ok_end {P : Program} {w : World} {K : PySem.W.Frag} {mg : Str → Option Value} {base : Heap} (T : Txt K mg) : FnOk P w K mg base (L2.CX P w) 15 T.f_law T.fd_law ["_law_script"] (spLaw K) := FnOk.imp (ok_law T) fun vs H Q E ⟨a, ns, e, hS, hl, k⟩ => by
  subst e
  exact law_sp (law_true ns hl) hS k
theorem all_mk {l : PySem.W.OpenLaw} {w : World} {K : PySem.W.Frag} {h : Heap} {mg : Str → Option Value} {fa : Addr} (X : K.In h) (G : h.Ns mainGlobals mg) (hfa : mg "law" = some (.ref fa))
    {f0 : Addr} {oc0 kV0 dc0 pm0 cd0 ct0 : Value} {od0 an0 : Option Addr} {sl0 : Array (Option Value)}
    {f1 : Addr} {oc1 kV1 dc1 pm1 cd1 ct1 : Value} {od1 an1 : Option Addr} {sl1 : Array (Option Value)}
    {f2 : Addr} {oc2 kV2 dc2 pm2 cd2 ct2 : Value} {od2 an2 : Option Addr} {sl2 : Array (Option Value)}
    {f3 : Addr} {oc3 kV3 dc3 pm3 cd3 ct3 : Value} {od3 an3 : Option Addr} {sl3 : Array (Option Value)}
    {f4 : Addr} {oc4 kV4 dc4 pm4 cd4 ct4 : Value} {od4 an4 : Option Addr} {sl4 : Array (Option Value)}
    {f5 : Addr} {oc5 kV5 dc5 pm5 cd5 ct5 : Value} {od5 an5 : Option Addr} {sl5 : Array (Option Value)}
    {f6 : Addr} {oc6 kV6 dc6 pm6 cd6 ct6 : Value} {od6 an6 : Option Addr} {sl6 : Array (Option Value)}
    {f7 : Addr} {oc7 kV7 dc7 pm7 cd7 ct7 : Value} {od7 an7 : Option Addr} {sl7 : Array (Option Value)}
    {f8 : Addr} {oc8 kV8 dc8 pm8 cd8 ct8 : Value} {od8 an8 : Option Addr} {sl8 : Array (Option Value)}
    {f9 : Addr} {oc9 kV9 dc9 pm9 cd9 ct9 : Value} {od9 an9 : Option Addr} {sl9 : Array (Option Value)}
    {f10 : Addr} {oc10 kV10 dc10 pm10 cd10 ct10 : Value} {od10 an10 : Option Addr} {sl10 : Array (Option Value)}
    {f11 : Addr} {oc11 kV11 dc11 pm11 cd11 ct11 : Value} {od11 an11 : Option Addr} {sl11 : Array (Option Value)}
    {f12 : Addr} {oc12 kV12 dc12 pm12 cd12 ct12 : Value} {od12 an12 : Option Addr} {sl12 : Array (Option Value)}
    {f13 : Addr} {oc13 kV13 dc13 pm13 cd13 ct13 : Value} {od13 an13 : Option Addr} {sl13 : Array (Option Value)}
    {f14 : Addr} {oc14 kV14 dc14 pm14 cd14 ct14 : Value} {od14 an14 : Option Addr} {sl14 : Array (Option Value)}
    {f15 : Addr} {oc15 kV15 dc15 pm15 cd15 ct15 : Value} {od15 an15 : Option Addr} {sl15 : Array (Option Value)}
    {f16 : Addr} {oc16 kV16 dc16 pm16 cd16 ct16 : Value} {od16 an16 : Option Addr} {sl16 : Array (Option Value)}
    {f17 : Addr} {oc17 kV17 dc17 pm17 cd17 ct17 : Value} {od17 an17 : Option Addr} {sl17 : Array (Option Value)}
    {f18 : Addr} {oc18 kV18 dc18 pm18 cd18 ct18 : Value} {od18 an18 : Option Addr} {sl18 : Array (Option Value)}
    {f19 : Addr} {oc19 kV19 dc19 pm19 cd19 ct19 : Value} {od19 an19 : Option Addr} {sl19 : Array (Option Value)}
    {f20 : Addr} {oc20 dc20 pm20 cd20 ct20 : Value} {od20 an20 : Option Addr} {sl20 : Array (Option Value)}
    {kwD20 : Addr} {kwt20_0 kwt20_1 : Tok}
    {f21 : Addr} {oc21 kV21 dc21 pm21 cd21 ct21 : Value} {od21 an21 : Option Addr} {sl21 : Array (Option Value)}
    {f22 : Addr} {oc22 kV22 dc22 pm22 cd22 ct22 : Value} {od22 an22 : Option Addr} {sl22 : Array (Option Value)}
    {f23 : Addr} {oc23 kV23 dc23 pm23 cd23 ct23 : Value} {od23 an23 : Option Addr} {sl23 : Array (Option Value)}
    {f24 : Addr} {oc24 kV24 dc24 pm24 cd24 ct24 : Value} {od24 an24 : Option Addr} {sl24 : Array (Option Value)}
    {dtT24 dtE24 : Addr} {ocT24 : Value} {odT24 odE24 : Option Addr} {nT24 nE24 : Nat} {slT24 slE24 : Array (Option Value)}
    {f25 : Addr} {oc25 kV25 dc25 pm25 cd25 ct25 : Value} {od25 an25 : Option Addr} {sl25 : Array (Option Value)}
    {f26 : Addr} {oc26 kV26 dc26 pm26 cd26 ct26 : Value} {od26 an26 : Option Addr} {sl26 : Array (Option Value)}
    {f27 : Addr} {oc27 kV27 dc27 pm27 cd27 ct27 : Value} {od27 an27 : Option Addr} {sl27 : Array (Option Value)}
    {f28 : Addr} {oc28 kV28 dc28 pm28 cd28 ct28 : Value} {od28 an28 : Option Addr} {sl28 : Array (Option Value)}
    {f29 : Addr} {oc29 kV29 dc29 pm29 cd29 ct29 : Value} {od29 an29 : Option Addr} {sl29 : Array (Option Value)}
    {f30 : Addr} {oc30 kV30 dc30 pm30 cd30 ct30 : Value} {od30 an30 : Option Addr} {sl30 : Array (Option Value)}
    {f31 : Addr} {oc31 kV31 dc31 pm31 cd31 ct31 : Value} {od31 an31 : Option Addr} {sl31 : Array (Option Value)}
    {f32 : Addr} {oc32 kV32 dc32 pm32 cd32 ct32 : Value} {od32 an32 : Option Addr} {sl32 : Array (Option Value)}
    {f33 : Addr} {oc33 kV33 dc33 pm33 cd33 ct33 : Value} {od33 an33 : Option Addr} {sl33 : Array (Option Value)}
    {f34 : Addr} {oc34 kV34 dc34 pm34 cd34 ct34 : Value} {od34 an34 : Option Addr} {sl34 : Array (Option Value)}
    {f35 : Addr} {oc35 kV35 dc35 pm35 cd35 ct35 : Value} {od35 an35 : Option Addr} {sl35 : Array (Option Value)}
    {f36 : Addr} {oc36 kV36 dc36 pm36 cd36 ct36 : Value} {od36 an36 : Option Addr} {sl36 : Array (Option Value)}
    {f37 : Addr} {oc37 kV37 dc37 pm37 cd37 ct37 : Value} {od37 an37 : Option Addr} {sl37 : Array (Option Value)}
    {f38 : Addr} {oc38 kV38 dc38 pm38 cd38 ct38 : Value} {od38 an38 : Option Addr} {sl38 : Array (Option Value)}
    {f39 : Addr} {oc39 kV39 dc39 pm39 cd39 ct39 : Value} {od39 an39 : Option Addr} {sl39 : Array (Option Value)}
    {f40 : Addr} {oc40 kV40 dc40 pm40 cd40 ct40 : Value} {od40 an40 : Option Addr} {sl40 : Array (Option Value)}
    {f41 : Addr} {oc41 kV41 dc41 pm41 cd41 ct41 : Value} {od41 an41 : Option Addr} {sl41 : Array (Option Value)}
    {kt_LEAST_0_0 : Tok}
    {kt_LEAST_0_1 : Tok}
    {kt_LEAST_0_2 : Tok}
    {kt_LEAST_0_3 : Tok}
    {kt_LEAST_0_4 : Tok}
    {kt_LEAST_0_5 : Tok}
    {kt_LEAST_0_6 : Tok}
    {kt_LEAST_0_7 : Tok}
    {kt_LEAST_0_8 : Tok}
    {kt_LEAST_0_9 : Tok}
    {kA_LEAST_0 : Addr} {kod_LEAST_0 : Option Addr} {kn_LEAST_0 : Nat} {ksl_LEAST_0 : Array (Option Value)}
    {kt_MOST_0_0 : Tok}
    {kt_MOST_0_1 : Tok}
    {kt_MOST_0_2 : Tok}
    {kt_MOST_0_3 : Tok}
    {kt_MOST_0_4 : Tok}
    {kt_MOST_0_5 : Tok}
    {kt_MOST_0_6 : Tok}
    {kt_MOST_0_7 : Tok}
    {kt_MOST_0_8 : Tok}
    {kt_MOST_0_9 : Tok}
    {kA_MOST_0 : Addr} {kod_MOST_0 : Option Addr} {kn_MOST_0 : Nat} {ksl_MOST_0 : Array (Option Value)}
    {t_MOST_FIGURES : Tok}
    {t_MOST_PIECES : Tok}
    {kt_START_0_0 : Tok}
    {kt_START_0_1 : Tok}
    {kt_START_0_2 : Tok}
    {kA_START_0 : Addr} {kod_START_0 : Option Addr} {kn_START_0 : Nat} {ksl_START_0 : Array (Option Value)}
    {A_BadBook : Addr}
    {A_BadLaying : Addr}
    {A_LaidError : Addr}
    {A_NoSuchNumber : Addr}
    {A_TooLarge : Addr}
    {nm_BadBook qq_BadBook : Str} {N_BadBook fI_BadBook : Addr} {bs_BadBook bm_BadBook : List Value} {sn_BadBook : List Str} {sb_BadBook : List Value} {ab_BadBook : Bool} {co_BadBook : Option Bool} {dd_BadBook od_BadBook an_BadBook : Option Addr} {m0_BadBook m1_BadBook m2_BadBook m3_BadBook m5_BadBook : Option Value} {oc_BadBook kV_BadBook dc_BadBook pm_BadBook cd_BadBook ct_BadBook : Value} {sl_BadBook : Array (Option Value)}
    {nm_BadLaying qq_BadLaying : Str} {N_BadLaying fI_BadLaying : Addr} {bs_BadLaying bm_BadLaying : List Value} {sn_BadLaying : List Str} {sb_BadLaying : List Value} {ab_BadLaying : Bool} {co_BadLaying : Option Bool} {dd_BadLaying od_BadLaying an_BadLaying : Option Addr} {m0_BadLaying m1_BadLaying m2_BadLaying m3_BadLaying m5_BadLaying : Option Value} {oc_BadLaying kV_BadLaying dc_BadLaying pm_BadLaying cd_BadLaying ct_BadLaying : Value} {sl_BadLaying : Array (Option Value)}
    {nm_NoSuchNumber qq_NoSuchNumber : Str} {N_NoSuchNumber fI_NoSuchNumber : Addr} {bs_NoSuchNumber bm_NoSuchNumber : List Value} {sn_NoSuchNumber : List Str} {sb_NoSuchNumber : List Value} {ab_NoSuchNumber : Bool} {co_NoSuchNumber : Option Bool} {dd_NoSuchNumber od_NoSuchNumber an_NoSuchNumber : Option Addr} {m0_NoSuchNumber m1_NoSuchNumber m2_NoSuchNumber m3_NoSuchNumber m5_NoSuchNumber : Option Value} {oc_NoSuchNumber kV_NoSuchNumber dc_NoSuchNumber pm_NoSuchNumber cd_NoSuchNumber ct_NoSuchNumber : Value} {sl_NoSuchNumber : Array (Option Value)}
    {nm_TooLarge qq_TooLarge : Str} {N_TooLarge fI_TooLarge : Addr} {bs_TooLarge bm_TooLarge : List Value} {sn_TooLarge : List Str} {sb_TooLarge : List Value} {ab_TooLarge : Bool} {co_TooLarge : Option Bool} {dd_TooLarge od_TooLarge an_TooLarge : Option Addr} {m0_TooLarge m1_TooLarge m2_TooLarge m3_TooLarge m5_TooLarge : Option Value} {oc_TooLarge kV_TooLarge dc_TooLarge pm_TooLarge cd_TooLarge ct_TooLarge : Value} {sl_TooLarge : Array (Option Value)}
    {A_Book : Addr}
    {A_Galley : Addr}
    {pp_Galley_figures : Addr} {pq_Galley_figures : List Value}
    {pp_Galley_pieces : Addr} {pq_Galley_pieces : List Value}
    {kt_Book_FIELDS_0_0 : Tok}
    {kt_Book_FIELDS_0_1 : Tok}
    {kt_Book_FIELDS_0_2 : Tok}
    {kt_Book_FIELDS_0_3 : Tok}
    {kt_Book_FIELDS_0_4 : Tok}
    {kt_Book_FIELDS_0_5 : Tok}
    {kt_Book_FIELDS_0_6 : Tok}
    {kt_Book_FIELDS_0_7 : Tok}
    {kt_Book_FIELDS_0_8 : Tok}
    {kt_Book_FIELDS_0_9 : Tok}
    {kt_Book_FIELDS_0_10 : Tok}
    {kA_Book_FIELDS_0 : Addr} {kod_Book_FIELDS_0 : Option Addr} {kn_Book_FIELDS_0 : Nat} {ksl_Book_FIELDS_0 : Array (Option Value)}
    (l0 : K.lookup f0 = some ⟨oc0, od0, .func (PySem.W.fnOf "pieces" "Galley.pieces" (defArgs s_Galley_pieces) (defBody s_Galley_pieces) (defScope s_Galley_pieces) .none kV0 dc0 pm0 an0 cd0 ct0), sl0⟩) (c0 : PySem.W.codeIn K cd0 "Galley.pieces" = true) (k0 : PySem.W.keepIn K (.ref f0) = true)
    (l1 : K.lookup f1 = some ⟨oc1, od1, .func (PySem.W.fnOf "block_at" "Galley.block_at" (defArgs s_Galley_block_at) (defBody s_Galley_block_at) (defScope s_Galley_block_at) .none kV1 dc1 pm1 an1 cd1 ct1), sl1⟩) (c1 : PySem.W.codeIn K cd1 "Galley.block_at" = true) (k1 : PySem.W.keepIn K (.ref f1) = true)
    (a2 : PySem.W.nsIn K mainGlobals "bare_width" = some (some (.ref f2)))
    (l2 : K.lookup f2 = some ⟨oc2, od2, .func (PySem.W.fnOf "bare_width" "bare_width" (defArgs s_bare_width) (defBody s_bare_width) (defScope s_bare_width) .none kV2 dc2 pm2 an2 cd2 ct2), sl2⟩) (c2 : PySem.W.codeIn K cd2 "bare_width" = true) (k2 : PySem.W.keepIn K (.ref f2) = true)
    (a3 : PySem.W.nsIn K mainGlobals "line_width" = some (some (.ref f3)))
    (l3 : K.lookup f3 = some ⟨oc3, od3, .func (PySem.W.fnOf "line_width" "line_width" (defArgs s_line_width) (defBody s_line_width) (defScope s_line_width) .none kV3 dc3 pm3 an3 cd3 ct3), sl3⟩) (c3 : PySem.W.codeIn K cd3 "line_width" = true) (k3 : PySem.W.keepIn K (.ref f3) = true)
    (a4 : PySem.W.nsIn K mainGlobals "line_gap" = some (some (.ref f4)))
    (l4 : K.lookup f4 = some ⟨oc4, od4, .func (PySem.W.fnOf "line_gap" "line_gap" (defArgs s_line_gap) (defBody s_line_gap) (defScope s_line_gap) .none kV4 dc4 pm4 an4 cd4 ct4), sl4⟩) (c4 : PySem.W.codeIn K cd4 "line_gap" = true) (k4 : PySem.W.keepIn K (.ref f4) = true)
    (a5 : PySem.W.nsIn K mainGlobals "line_cost" = some (some (.ref f5)))
    (l5 : K.lookup f5 = some ⟨oc5, od5, .func (PySem.W.fnOf "line_cost" "line_cost" (defArgs s_line_cost) (defBody s_line_cost) (defScope s_line_cost) .none kV5 dc5 pm5 an5 cd5 ct5), sl5⟩) (c5 : PySem.W.codeIn K cd5 "line_cost" = true) (k5 : PySem.W.keepIn K (.ref f5) = true)
    (a6 : PySem.W.nsIn K mainGlobals "line_ends" = some (some (.ref f6)))
    (l6 : K.lookup f6 = some ⟨oc6, od6, .func (PySem.W.fnOf "line_ends" "line_ends" (defArgs s_line_ends) (defBody s_line_ends) (defScope s_line_ends) .none kV6 dc6 pm6 an6 cd6 ct6), sl6⟩) (c6 : PySem.W.codeIn K cd6 "line_ends" = true) (k6 : PySem.W.keepIn K (.ref f6) = true)
    (a7 : PySem.W.nsIn K mainGlobals "line_need" = some (some (.ref f7)))
    (l7 : K.lookup f7 = some ⟨oc7, od7, .func (PySem.W.fnOf "line_need" "line_need" (defArgs s_line_need) (defBody s_line_need) (defScope s_line_need) .none kV7 dc7 pm7 an7 cd7 ct7), sl7⟩) (c7 : PySem.W.codeIn K cd7 "line_need" = true) (k7 : PySem.W.keepIn K (.ref f7) = true)
    (a8 : PySem.W.nsIn K mainGlobals "turn_cost" = some (some (.ref f8)))
    (l8 : K.lookup f8 = some ⟨oc8, od8, .func (PySem.W.fnOf "turn_cost" "turn_cost" (defArgs s_turn_cost) (defBody s_turn_cost) (defScope s_turn_cost) .none kV8 dc8 pm8 an8 cd8 ct8), sl8⟩) (c8 : PySem.W.codeIn K cd8 "turn_cost" = true) (k8 : PySem.W.keepIn K (.ref f8) = true)
    (a9 : PySem.W.nsIn K mainGlobals "called_ahead" = some (some (.ref f9)))
    (l9 : K.lookup f9 = some ⟨oc9, od9, .func (PySem.W.fnOf "called_ahead" "called_ahead" (defArgs s_called_ahead) (defBody s_called_ahead) (defScope s_called_ahead) .none kV9 dc9 pm9 an9 cd9 ct9), sl9⟩) (c9 : PySem.W.codeIn K cd9 "called_ahead" = true) (k9 : PySem.W.keepIn K (.ref f9) = true)
    (l10 : K.lookup f10 = some ⟨oc10, od10, .func (PySem.W.fnOf "figures" "Galley.figures" (defArgs s_Galley_figures) (defBody s_Galley_figures) (defScope s_Galley_figures) .none kV10 dc10 pm10 an10 cd10 ct10), sl10⟩) (c10 : PySem.W.codeIn K cd10 "Galley.figures" = true) (k10 : PySem.W.keepIn K (.ref f10) = true)
    (a11 : PySem.W.nsIn K mainGlobals "moves_to" = some (some (.ref f11)))
    (l11 : K.lookup f11 = some ⟨oc11, od11, .func (PySem.W.fnOf "moves_to" "moves_to" (defArgs s_moves_to) (defBody s_moves_to) (defScope s_moves_to) .none kV11 dc11 pm11 an11 cd11 ct11), sl11⟩) (c11 : PySem.W.codeIn K cd11 "moves_to" = true) (k11 : PySem.W.keepIn K (.ref f11) = true)
    (l12 : K.lookup f12 = some ⟨oc12, od12, .func (PySem.W.fnOf "__len__" "Galley.__len__" (defArgs s_Galley_len) (defBody s_Galley_len) (defScope s_Galley_len) .none kV12 dc12 pm12 an12 cd12 ct12), sl12⟩) (c12 : PySem.W.codeIn K cd12 "Galley.__len__" = true) (k12 : PySem.W.keepIn K (.ref f12) = true)
    (a13 : PySem.W.nsIn K mainGlobals "moves_of" = some (some (.ref f13)))
    (l13 : K.lookup f13 = some ⟨oc13, od13, .func (PySem.W.fnOf "moves_of" "moves_of" (defArgs s_moves_of) (defBody s_moves_of) (defScope s_moves_of) .none kV13 dc13 pm13 an13 cd13 ct13), sl13⟩) (c13 : PySem.W.codeIn K cd13 "moves_of" = true) (k13 : PySem.W.keepIn K (.ref f13) = true)
    (a14 : PySem.W.nsIn K mainGlobals "made_moves" = some (some (.ref f14)))
    (l14 : K.lookup f14 = some ⟨oc14, od14, .func (PySem.W.fnOf "made_moves" "made_moves" (defArgs s_made_moves) (defBody s_made_moves) (defScope s_made_moves) .none kV14 dc14 pm14 an14 cd14 ct14), sl14⟩) (c14 : PySem.W.codeIn K cd14 "made_moves" = true) (k14 : PySem.W.keepIn K (.ref f14) = true)
    (a15 : PySem.W.nsIn K mainGlobals "states_of" = some (some (.ref f15)))
    (l15 : K.lookup f15 = some ⟨oc15, od15, .func (PySem.W.fnOf "states_of" "states_of" (defArgs s_states_of) (defBody s_states_of) (defScope s_states_of) .none kV15 dc15 pm15 an15 cd15 ct15), sl15⟩) (c15 : PySem.W.codeIn K cd15 "states_of" = true) (k15 : PySem.W.keepIn K (.ref f15) = true)
    (a16 : PySem.W.nsIn K mainGlobals "is_forbidden" = some (some (.ref f16)))
    (l16 : K.lookup f16 = some ⟨oc16, od16, .func (PySem.W.fnOf "is_forbidden" "is_forbidden" (defArgs s_is_forbidden) (defBody s_is_forbidden) (defScope s_is_forbidden) .none kV16 dc16 pm16 an16 cd16 ct16), sl16⟩) (c16 : PySem.W.codeIn K cd16 "is_forbidden" = true) (k16 : PySem.W.keepIn K (.ref f16) = true)
    (a17 : PySem.W.nsIn K mainGlobals "broken_at" = some (some (.ref f17)))
    (l17 : K.lookup f17 = some ⟨oc17, od17, .func (PySem.W.fnOf "broken_at" "broken_at" (defArgs s_broken_at) (defBody s_broken_at) (defScope s_broken_at) .none kV17 dc17 pm17 an17 cd17 ct17), sl17⟩) (c17 : PySem.W.codeIn K cd17 "broken_at" = true) (k17 : PySem.W.keepIn K (.ref f17) = true)
    (a18 : PySem.W.nsIn K mainGlobals "is_number" = some (some (.ref f18)))
    (l18 : K.lookup f18 = some ⟨oc18, od18, .func (PySem.W.fnOf "is_number" "is_number" (defArgs s_is_number) (defBody s_is_number) (defScope s_is_number) .none kV18 dc18 pm18 an18 cd18 ct18), sl18⟩) (c18 : PySem.W.codeIn K cd18 "is_number" = true) (k18 : PySem.W.keepIn K (.ref f18) = true)
    (a19 : PySem.W.nsIn K mainGlobals "is_within" = some (some (.ref f19)))
    (l19 : K.lookup f19 = some ⟨oc19, od19, .func (PySem.W.fnOf "is_within" "is_within" (defArgs s_is_within) (defBody s_is_within) (defScope s_is_within) .none kV19 dc19 pm19 an19 cd19 ct19), sl19⟩) (c19 : PySem.W.codeIn K cd19 "is_within" = true) (k19 : PySem.W.keepIn K (.ref f19) = true)
    (l20 : K.lookup f20 = some ⟨oc20, od20, .func (PySem.W.fnOf "__init__" "Book.__init__" (defArgs s_Book_init) (defBody s_Book_init) (defScope s_Book_init) .none (.ref kwD20) dc20 pm20 an20 cd20 ct20), sl20⟩) (c20 : PySem.W.codeIn K cd20 "Book.__init__" = true) (k20 : PySem.W.keepIn K (.ref f20) = true)
    (kw20_0 : PySem.W.nsIn K kwD20 "columns" = some (some (.int (1) kwt20_0)))
    (kw20_1 : PySem.W.nsIn K kwD20 "gutter" = some (some (.int (1) kwt20_1)))
    (kw20_2 : PySem.W.nsIn K kwD20 "full" = some (some (.bool false)))
    (a21 : PySem.W.nsIn K mainGlobals "pieces_in" = some (some (.ref f21)))
    (l21 : K.lookup f21 = some ⟨oc21, od21, .func (PySem.W.fnOf "pieces_in" "pieces_in" (defArgs s_pieces_in) (defBody s_pieces_in) (defScope s_pieces_in) .none kV21 dc21 pm21 an21 cd21 ct21), sl21⟩) (c21 : PySem.W.codeIn K cd21 "pieces_in" = true) (k21 : PySem.W.keepIn K (.ref f21) = true)
    (a22 : PySem.W.nsIn K mainGlobals "figures_in" = some (some (.ref f22)))
    (l22 : K.lookup f22 = some ⟨oc22, od22, .func (PySem.W.fnOf "figures_in" "figures_in" (defArgs s_figures_in) (defBody s_figures_in) (defScope s_figures_in) .none kV22 dc22 pm22 an22 cd22 ct22), sl22⟩) (c22 : PySem.W.codeIn K cd22 "figures_in" = true) (k22 : PySem.W.keepIn K (.ref f22) = true)
    (a23 : PySem.W.nsIn K mainGlobals "spans_in" = some (some (.ref f23)))
    (l23 : K.lookup f23 = some ⟨oc23, od23, .func (PySem.W.fnOf "spans_in" "spans_in" (defArgs s_spans_in) (defBody s_spans_in) (defScope s_spans_in) .none kV23 dc23 pm23 an23 cd23 ct23), sl23⟩) (c23 : PySem.W.codeIn K cd23 "spans_in" = true) (k23 : PySem.W.keepIn K (.ref f23) = true)
    (l24 : K.lookup f24 = some ⟨oc24, od24, .func (PySem.W.fnOf "__init__" "Galley.__init__" (defArgs s_Galley_init) (defBody s_Galley_init) (defScope s_Galley_init) (.ref dtT24) kV24 dc24 pm24 an24 cd24 ct24), sl24⟩) (c24 : PySem.W.codeIn K cd24 "Galley.__init__" = true) (k24 : PySem.W.keepIn K (.ref f24) = true)
    (lT24 : K.lookup dtT24 = some ⟨ocT24, odT24, .seq #[.ref dtE24] nT24, slT24⟩) (lE24 : K.lookup dtE24 = some ⟨.type "tuple", odE24, .seq #[] nE24, slE24⟩)
    (a25 : PySem.W.nsIn K mainGlobals "_law_cell" = some (some (.ref f25)))
    (l25 : K.lookup f25 = some ⟨oc25, od25, .func (PySem.W.fnOf "_law_cell" "_law_cell" (defArgs s_l_cell) (defBody s_l_cell) (defScope s_l_cell) .none kV25 dc25 pm25 an25 cd25 ct25), sl25⟩) (c25 : PySem.W.codeIn K cd25 "_law_cell" = true) (k25 : PySem.W.keepIn K (.ref f25) = true)
    (a26 : PySem.W.nsIn K mainGlobals "_law_row" = some (some (.ref f26)))
    (l26 : K.lookup f26 = some ⟨oc26, od26, .func (PySem.W.fnOf "_law_row" "_law_row" (defArgs s_l_row) (defBody s_l_row) (defScope s_l_row) .none kV26 dc26 pm26 an26 cd26 ct26), sl26⟩) (c26 : PySem.W.codeIn K cd26 "_law_row" = true) (k26 : PySem.W.keepIn K (.ref f26) = true)
    (a27 : PySem.W.nsIn K mainGlobals "_law_number" = some (some (.ref f27)))
    (l27 : K.lookup f27 = some ⟨oc27, od27, .func (PySem.W.fnOf "_law_number" "_law_number" (defArgs s_l_number) (defBody s_l_number) (defScope s_l_number) .none kV27 dc27 pm27 an27 cd27 ct27), sl27⟩) (c27 : PySem.W.codeIn K cd27 "_law_number" = true) (k27 : PySem.W.keepIn K (.ref f27) = true)
    (a28 : PySem.W.nsIn K mainGlobals "_law_same" = some (some (.ref f28)))
    (l28 : K.lookup f28 = some ⟨oc28, od28, .func (PySem.W.fnOf "_law_same" "_law_same" (defArgs s_l_same) (defBody s_l_same) (defScope s_l_same) .none kV28 dc28 pm28 an28 cd28 ct28), sl28⟩) (c28 : PySem.W.codeIn K cd28 "_law_same" = true) (k28 : PySem.W.keepIn K (.ref f28) = true)
    (a29 : PySem.W.nsIn K mainGlobals "_law_block" = some (some (.ref f29)))
    (l29 : K.lookup f29 = some ⟨oc29, od29, .func (PySem.W.fnOf "_law_block" "_law_block" (defArgs s_l_block) (defBody s_l_block) (defScope s_l_block) .none kV29 dc29 pm29 an29 cd29 ct29), sl29⟩) (c29 : PySem.W.codeIn K cd29 "_law_block" = true) (k29 : PySem.W.keepIn K (.ref f29) = true)
    (a30 : PySem.W.nsIn K mainGlobals "_law_few" = some (some (.ref f30)))
    (l30 : K.lookup f30 = some ⟨oc30, od30, .func (PySem.W.fnOf "_law_few" "_law_few" (defArgs s_l_few) (defBody s_l_few) (defScope s_l_few) .none kV30 dc30 pm30 an30 cd30 ct30), sl30⟩) (c30 : PySem.W.codeIn K cd30 "_law_few" = true) (k30 : PySem.W.keepIn K (.ref f30) = true)
    (a31 : PySem.W.nsIn K mainGlobals "_law_flat" = some (some (.ref f31)))
    (l31 : K.lookup f31 = some ⟨oc31, od31, .func (PySem.W.fnOf "_law_flat" "_law_flat" (defArgs s_l_flat) (defBody s_l_flat) (defScope s_l_flat) .none kV31 dc31 pm31 an31 cd31 ct31), sl31⟩) (c31 : PySem.W.codeIn K cd31 "_law_flat" = true) (k31 : PySem.W.keepIn K (.ref f31) = true)
    (a32 : PySem.W.nsIn K mainGlobals "_law_width" = some (some (.ref f32)))
    (l32 : K.lookup f32 = some ⟨oc32, od32, .func (PySem.W.fnOf "_law_width" "_law_width" (defArgs s_l_width) (defBody s_l_width) (defScope s_l_width) .none kV32 dc32 pm32 an32 cd32 ct32), sl32⟩) (c32 : PySem.W.codeIn K cd32 "_law_width" = true) (k32 : PySem.W.keepIn K (.ref f32) = true)
    (a33 : PySem.W.nsIn K mainGlobals "_law_moves" = some (some (.ref f33)))
    (l33 : K.lookup f33 = some ⟨oc33, od33, .func (PySem.W.fnOf "_law_moves" "_law_moves" (defArgs s_l_moves) (defBody s_l_moves) (defScope s_l_moves) .none kV33 dc33 pm33 an33 cd33 ct33), sl33⟩) (c33 : PySem.W.codeIn K cd33 "_law_moves" = true) (k33 : PySem.W.keepIn K (.ref f33) = true)
    (a34 : PySem.W.nsIn K mainGlobals "_law_walk" = some (some (.ref f34)))
    (l34 : K.lookup f34 = some ⟨oc34, od34, .func (PySem.W.fnOf "_law_walk" "_law_walk" (defArgs s_l_walk) (defBody s_l_walk) (defScope s_l_walk) .none kV34 dc34 pm34 an34 cd34 ct34), sl34⟩) (c34 : PySem.W.codeIn K cd34 "_law_walk" = true) (k34 : PySem.W.keepIn K (.ref f34) = true)
    (a35 : PySem.W.nsIn K mainGlobals "_law_forbidden" = some (some (.ref f35)))
    (l35 : K.lookup f35 = some ⟨oc35, od35, .func (PySem.W.fnOf "_law_forbidden" "_law_forbidden" (defArgs s_l_forbidden) (defBody s_l_forbidden) (defScope s_l_forbidden) .none kV35 dc35 pm35 an35 cd35 ct35), sl35⟩) (c35 : PySem.W.codeIn K cd35 "_law_forbidden" = true) (k35 : PySem.W.keepIn K (.ref f35) = true)
    (a36 : PySem.W.nsIn K mainGlobals "_law_first" = some (some (.ref f36)))
    (l36 : K.lookup f36 = some ⟨oc36, od36, .func (PySem.W.fnOf "_law_first" "_law_first" (defArgs s_l_first) (defBody s_l_first) (defScope s_l_first) .none kV36 dc36 pm36 an36 cd36 ct36), sl36⟩) (c36 : PySem.W.codeIn K cd36 "_law_first" = true) (k36 : PySem.W.keepIn K (.ref f36) = true)
    (a37 : PySem.W.nsIn K mainGlobals "_law_refused" = some (some (.ref f37)))
    (l37 : K.lookup f37 = some ⟨oc37, od37, .func (PySem.W.fnOf "_law_refused" "_law_refused" (defArgs s_l_refused) (defBody s_l_refused) (defScope s_l_refused) .none kV37 dc37 pm37 an37 cd37 ct37), sl37⟩) (c37 : PySem.W.codeIn K cd37 "_law_refused" = true) (k37 : PySem.W.keepIn K (.ref f37) = true)
    (a38 : PySem.W.nsIn K mainGlobals "_law_spoilt" = some (some (.ref f38)))
    (l38 : K.lookup f38 = some ⟨oc38, od38, .func (PySem.W.fnOf "_law_spoilt" "_law_spoilt" (defArgs s_l_spoilt) (defBody s_l_spoilt) (defScope s_l_spoilt) .none kV38 dc38 pm38 an38 cd38 ct38), sl38⟩) (c38 : PySem.W.codeIn K cd38 "_law_spoilt" = true) (k38 : PySem.W.keepIn K (.ref f38) = true)
    (a39 : PySem.W.nsIn K mainGlobals "_law_book" = some (some (.ref f39)))
    (l39 : K.lookup f39 = some ⟨oc39, od39, .func (PySem.W.fnOf "_law_book" "_law_book" (defArgs s_l_book) (defBody s_l_book) (defScope s_l_book) .none kV39 dc39 pm39 an39 cd39 ct39), sl39⟩) (c39 : PySem.W.codeIn K cd39 "_law_book" = true) (k39 : PySem.W.keepIn K (.ref f39) = true)
    (a40 : PySem.W.nsIn K mainGlobals "law" = some (some (.ref f40)))
    (l40 : K.lookup f40 = some ⟨oc40, od40, .func (PySem.W.fnOf "law" "law" (defArgs s_law) (defBody s_law) (defScope s_law) .none kV40 dc40 pm40 an40 cd40 ct40), sl40⟩) (c40 : PySem.W.codeIn K cd40 "law" = true) (k40 : PySem.W.keepIn K (.ref f40) = true)
    (l41 : K.lookup f41 = some ⟨oc41, od41, .func (PySem.W.fnOf "__iter__" "Galley.__iter__" (defArgs s_Galley_iter) (defBody s_Galley_iter) (defScope s_Galley_iter) .none kV41 dc41 pm41 an41 cd41 ct41), sl41⟩) (c41 : PySem.W.codeIn K cd41 "Galley.__iter__" = true) (k41 : PySem.W.keepIn K (.ref f41) = true)
    (z_bool : PySem.W.nsIn K mainGlobals "bool" = some none)
    (z_enumerate : PySem.W.nsIn K mainGlobals "enumerate" = some none)
    (z_int : PySem.W.nsIn K mainGlobals "int" = some none)
    (z_isinstance : PySem.W.nsIn K mainGlobals "isinstance" = some none)
    (z_iter : PySem.W.nsIn K mainGlobals "iter" = some none)
    (z_len : PySem.W.nsIn K mainGlobals "len" = some none)
    (z_list : PySem.W.nsIn K mainGlobals "list" = some none)
    (z_max : PySem.W.nsIn K mainGlobals "max" = some none)
    (z_range : PySem.W.nsIn K mainGlobals "range" = some none)
    (z_str : PySem.W.nsIn K mainGlobals "str" = some none)
    (z_sum : PySem.W.nsIn K mainGlobals "sum" = some none)
    (z_tuple : PySem.W.nsIn K mainGlobals "tuple" = some none)
    (z_zip : PySem.W.nsIn K mainGlobals "zip" = some none)
    (y_LEAST : PySem.W.nsIn K mainGlobals "LEAST" = some (some (.ref kA_LEAST_0)))
    (kl_LEAST_0 : K.lookup kA_LEAST_0 = some ⟨.type "tuple", kod_LEAST_0, .seq #[.int (1) kt_LEAST_0_0, .int (1) kt_LEAST_0_1, .int (0) kt_LEAST_0_2, .int (0) kt_LEAST_0_3, .int (0) kt_LEAST_0_4, .int (0) kt_LEAST_0_5, .int (0) kt_LEAST_0_6, .int (0) kt_LEAST_0_7, .int (1) kt_LEAST_0_8, .int (0) kt_LEAST_0_9] kn_LEAST_0, ksl_LEAST_0⟩)
    (y_MOST : PySem.W.nsIn K mainGlobals "MOST" = some (some (.ref kA_MOST_0)))
    (kl_MOST_0 : K.lookup kA_MOST_0 = some ⟨.type "tuple", kod_MOST_0, .seq #[.int (2000) kt_MOST_0_0, .int (2000) kt_MOST_0_1, .int (2000) kt_MOST_0_2, .int (2000) kt_MOST_0_3, .int (2000) kt_MOST_0_4, .int (2000) kt_MOST_0_5, .int (2000) kt_MOST_0_6, .int (2000) kt_MOST_0_7, .int (4) kt_MOST_0_8, .int (40) kt_MOST_0_9] kn_MOST_0, ksl_MOST_0⟩)
    (y_MOST_FIGURES : PySem.W.nsIn K mainGlobals "MOST_FIGURES" = some (some (.int 4 t_MOST_FIGURES)))
    (y_MOST_PIECES : PySem.W.nsIn K mainGlobals "MOST_PIECES" = some (some (.int 40 t_MOST_PIECES)))
    (y_START : PySem.W.nsIn K mainGlobals "START" = some (some (.ref kA_START_0)))
    (kl_START_0 : K.lookup kA_START_0 = some ⟨.type "tuple", kod_START_0, .seq #[.int (0) kt_START_0_0, .int (0) kt_START_0_1, .int (0) kt_START_0_2, .bool false] kn_START_0, ksl_START_0⟩)
    (x_BadBook : PySem.W.nsIn K mainGlobals "BadBook" = some (some (.ref A_BadBook)))
    (x_BadLaying : PySem.W.nsIn K mainGlobals "BadLaying" = some (some (.ref A_BadLaying)))
    (x_LaidError : PySem.W.nsIn K mainGlobals "LaidError" = some (some (.ref A_LaidError)))
    (x_NoSuchNumber : PySem.W.nsIn K mainGlobals "NoSuchNumber" = some (some (.ref A_NoSuchNumber)))
    (x_TooLarge : PySem.W.nsIn K mainGlobals "TooLarge" = some (some (.ref A_TooLarge)))
    (X1_BadBook : K.lookup A_BadBook = some (excClassObj nm_BadBook qq_BadBook A_BadBook N_BadBook bs_BadBook bm_BadBook true sn_BadBook sb_BadBook ab_BadBook co_BadBook dd_BadBook m0_BadBook m1_BadBook m2_BadBook m3_BadBook m5_BadBook "ValueError.__new__")) (X2_BadBook : PySem.HandSPX.refsVE bm_BadBook = true)
    (X3_BadBook : PySem.W.findIn K (.ref A_BadBook) "__setattr__" = some (some (.builtin "object.__setattr__"))) (X4_BadBook : PySem.W.subIn K (.ref A_BadBook) (.type "BaseException") = some true) (X5_BadBook : PySem.W.typeIn K (.ref A_BadBook) = some (.type "type")) (X6_BadBook : PySem.W.keepIn K (.ref A_BadBook) = true)
    (X7_BadBook : PySem.W.findIn K (.ref A_BadBook) "__init__" = some (some (.ref fI_BadBook))) (X8_BadBook : PySem.W.typeIn K (.ref fI_BadBook) = some (.type "function")) (X9_BadBook : K.lookup fI_BadBook = some ⟨oc_BadBook, od_BadBook, .func (PySem.W.fnOf "__init__" "BadBook.__init__" (defArgs s_BadBook) (defBody s_BadBook) (defScope s_BadBook) .none kV_BadBook dc_BadBook pm_BadBook an_BadBook cd_BadBook ct_BadBook), sl_BadBook⟩) (Xa_BadBook : PySem.W.codeIn K cd_BadBook "BadBook.__init__" = true) (Xb_BadBook : PySem.W.keepIn K (.ref fI_BadBook) = true)
    (Y0_BadBook : PySem.W.findIn K (.ref A_BadBook) "field" = some none)
    (Xc_BadBook : PySem.W.findIn K (.ref A_BadBook) "__getattribute__" = some (some (.builtin "BaseException.__getattribute__"))) (Xd_BadBook : PySem.W.findIn K (.ref A_BadBook) "__getattr__" = some none) (Xe_BadBook : PySem.W.hasDictIn K A_BadBook = true)
    (Xf_BadBook : PySem.W.findIn K (.ref A_BadBook) "__class__" = some (some (.builtin "object.__class__"))) (Xg_BadBook : PySem.W.specialIn K (.builtin "object.__class__") "__get__" = some (some (.builtin "getset_descriptor.__get__"))) (Xh_BadBook : PySem.W.takesIn K (.builtin "object.__class__") = some true) (Xi_BadBook : PySem.W.mroIn K A_BadBook (.type "object") = some true)
    (E_BadBook_BadLaying : PySem.W.exmOne K (.ref A_BadBook) (.ref A_BadLaying) = some false)
    (Q_BadBook_LaidError : PySem.W.kitOne K (.ref A_BadBook) (.ref A_LaidError) = some true)
    (X1_BadLaying : K.lookup A_BadLaying = some (excClassObj nm_BadLaying qq_BadLaying A_BadLaying N_BadLaying bs_BadLaying bm_BadLaying true sn_BadLaying sb_BadLaying ab_BadLaying co_BadLaying dd_BadLaying m0_BadLaying m1_BadLaying m2_BadLaying m3_BadLaying m5_BadLaying "ValueError.__new__")) (X2_BadLaying : PySem.HandSPX.refsVE bm_BadLaying = true)
    (X3_BadLaying : PySem.W.findIn K (.ref A_BadLaying) "__setattr__" = some (some (.builtin "object.__setattr__"))) (X4_BadLaying : PySem.W.subIn K (.ref A_BadLaying) (.type "BaseException") = some true) (X5_BadLaying : PySem.W.typeIn K (.ref A_BadLaying) = some (.type "type")) (X6_BadLaying : PySem.W.keepIn K (.ref A_BadLaying) = true)
    (X7_BadLaying : PySem.W.findIn K (.ref A_BadLaying) "__init__" = some (some (.ref fI_BadLaying))) (X8_BadLaying : PySem.W.typeIn K (.ref fI_BadLaying) = some (.type "function")) (X9_BadLaying : K.lookup fI_BadLaying = some ⟨oc_BadLaying, od_BadLaying, .func (PySem.W.fnOf "__init__" "BadLaying.__init__" (defArgs s_BadLaying) (defBody s_BadLaying) (defScope s_BadLaying) .none kV_BadLaying dc_BadLaying pm_BadLaying an_BadLaying cd_BadLaying ct_BadLaying), sl_BadLaying⟩) (Xa_BadLaying : PySem.W.codeIn K cd_BadLaying "BadLaying.__init__" = true) (Xb_BadLaying : PySem.W.keepIn K (.ref fI_BadLaying) = true)
    (Y0_BadLaying : PySem.W.findIn K (.ref A_BadLaying) "step" = some none)
    (Xc_BadLaying : PySem.W.findIn K (.ref A_BadLaying) "__getattribute__" = some (some (.builtin "BaseException.__getattribute__"))) (Xd_BadLaying : PySem.W.findIn K (.ref A_BadLaying) "__getattr__" = some none) (Xe_BadLaying : PySem.W.hasDictIn K A_BadLaying = true)
    (Xf_BadLaying : PySem.W.findIn K (.ref A_BadLaying) "__class__" = some (some (.builtin "object.__class__"))) (Xg_BadLaying : PySem.W.specialIn K (.builtin "object.__class__") "__get__" = some (some (.builtin "getset_descriptor.__get__"))) (Xh_BadLaying : PySem.W.takesIn K (.builtin "object.__class__") = some true) (Xi_BadLaying : PySem.W.mroIn K A_BadLaying (.type "object") = some true)
    (E_BadLaying_BadLaying : PySem.W.exmOne K (.ref A_BadLaying) (.ref A_BadLaying) = some true)
    (Q_BadLaying_LaidError : PySem.W.kitOne K (.ref A_BadLaying) (.ref A_LaidError) = some true)
    (X1_NoSuchNumber : K.lookup A_NoSuchNumber = some (excClassObj nm_NoSuchNumber qq_NoSuchNumber A_NoSuchNumber N_NoSuchNumber bs_NoSuchNumber bm_NoSuchNumber true sn_NoSuchNumber sb_NoSuchNumber ab_NoSuchNumber co_NoSuchNumber dd_NoSuchNumber m0_NoSuchNumber m1_NoSuchNumber m2_NoSuchNumber m3_NoSuchNumber m5_NoSuchNumber "ValueError.__new__")) (X2_NoSuchNumber : PySem.HandSPX.refsVE bm_NoSuchNumber = true)
    (X3_NoSuchNumber : PySem.W.findIn K (.ref A_NoSuchNumber) "__setattr__" = some (some (.builtin "object.__setattr__"))) (X4_NoSuchNumber : PySem.W.subIn K (.ref A_NoSuchNumber) (.type "BaseException") = some true) (X5_NoSuchNumber : PySem.W.typeIn K (.ref A_NoSuchNumber) = some (.type "type")) (X6_NoSuchNumber : PySem.W.keepIn K (.ref A_NoSuchNumber) = true)
    (X7_NoSuchNumber : PySem.W.findIn K (.ref A_NoSuchNumber) "__init__" = some (some (.ref fI_NoSuchNumber))) (X8_NoSuchNumber : PySem.W.typeIn K (.ref fI_NoSuchNumber) = some (.type "function")) (X9_NoSuchNumber : K.lookup fI_NoSuchNumber = some ⟨oc_NoSuchNumber, od_NoSuchNumber, .func (PySem.W.fnOf "__init__" "NoSuchNumber.__init__" (defArgs s_NoSuchNumber) (defBody s_NoSuchNumber) (defScope s_NoSuchNumber) .none kV_NoSuchNumber dc_NoSuchNumber pm_NoSuchNumber an_NoSuchNumber cd_NoSuchNumber ct_NoSuchNumber), sl_NoSuchNumber⟩) (Xa_NoSuchNumber : PySem.W.codeIn K cd_NoSuchNumber "NoSuchNumber.__init__" = true) (Xb_NoSuchNumber : PySem.W.keepIn K (.ref fI_NoSuchNumber) = true)
    (Y0_NoSuchNumber : PySem.W.findIn K (.ref A_NoSuchNumber) "number" = some none)
    (Xc_NoSuchNumber : PySem.W.findIn K (.ref A_NoSuchNumber) "__getattribute__" = some (some (.builtin "BaseException.__getattribute__"))) (Xd_NoSuchNumber : PySem.W.findIn K (.ref A_NoSuchNumber) "__getattr__" = some none) (Xe_NoSuchNumber : PySem.W.hasDictIn K A_NoSuchNumber = true)
    (Xf_NoSuchNumber : PySem.W.findIn K (.ref A_NoSuchNumber) "__class__" = some (some (.builtin "object.__class__"))) (Xg_NoSuchNumber : PySem.W.specialIn K (.builtin "object.__class__") "__get__" = some (some (.builtin "getset_descriptor.__get__"))) (Xh_NoSuchNumber : PySem.W.takesIn K (.builtin "object.__class__") = some true) (Xi_NoSuchNumber : PySem.W.mroIn K A_NoSuchNumber (.type "object") = some true)
    (E_NoSuchNumber_BadLaying : PySem.W.exmOne K (.ref A_NoSuchNumber) (.ref A_BadLaying) = some false)
    (Q_NoSuchNumber_LaidError : PySem.W.kitOne K (.ref A_NoSuchNumber) (.ref A_LaidError) = some true)
    (X1_TooLarge : K.lookup A_TooLarge = some (excClassObj nm_TooLarge qq_TooLarge A_TooLarge N_TooLarge bs_TooLarge bm_TooLarge true sn_TooLarge sb_TooLarge ab_TooLarge co_TooLarge dd_TooLarge m0_TooLarge m1_TooLarge m2_TooLarge m3_TooLarge m5_TooLarge "ValueError.__new__")) (X2_TooLarge : PySem.HandSPX.refsVE bm_TooLarge = true)
    (X3_TooLarge : PySem.W.findIn K (.ref A_TooLarge) "__setattr__" = some (some (.builtin "object.__setattr__"))) (X4_TooLarge : PySem.W.subIn K (.ref A_TooLarge) (.type "BaseException") = some true) (X5_TooLarge : PySem.W.typeIn K (.ref A_TooLarge) = some (.type "type")) (X6_TooLarge : PySem.W.keepIn K (.ref A_TooLarge) = true)
    (X7_TooLarge : PySem.W.findIn K (.ref A_TooLarge) "__init__" = some (some (.ref fI_TooLarge))) (X8_TooLarge : PySem.W.typeIn K (.ref fI_TooLarge) = some (.type "function")) (X9_TooLarge : K.lookup fI_TooLarge = some ⟨oc_TooLarge, od_TooLarge, .func (PySem.W.fnOf "__init__" "TooLarge.__init__" (defArgs s_TooLarge) (defBody s_TooLarge) (defScope s_TooLarge) .none kV_TooLarge dc_TooLarge pm_TooLarge an_TooLarge cd_TooLarge ct_TooLarge), sl_TooLarge⟩) (Xa_TooLarge : PySem.W.codeIn K cd_TooLarge "TooLarge.__init__" = true) (Xb_TooLarge : PySem.W.keepIn K (.ref fI_TooLarge) = true)
    (Y0_TooLarge : PySem.W.findIn K (.ref A_TooLarge) "many" = some none)
    (Xc_TooLarge : PySem.W.findIn K (.ref A_TooLarge) "__getattribute__" = some (some (.builtin "BaseException.__getattribute__"))) (Xd_TooLarge : PySem.W.findIn K (.ref A_TooLarge) "__getattr__" = some none) (Xe_TooLarge : PySem.W.hasDictIn K A_TooLarge = true)
    (Xf_TooLarge : PySem.W.findIn K (.ref A_TooLarge) "__class__" = some (some (.builtin "object.__class__"))) (Xg_TooLarge : PySem.W.specialIn K (.builtin "object.__class__") "__get__" = some (some (.builtin "getset_descriptor.__get__"))) (Xh_TooLarge : PySem.W.takesIn K (.builtin "object.__class__") = some true) (Xi_TooLarge : PySem.W.mroIn K A_TooLarge (.type "object") = some true)
    (E_TooLarge_BadLaying : PySem.W.exmOne K (.ref A_TooLarge) (.ref A_BadLaying) = some false)
    (Q_TooLarge_LaidError : PySem.W.kitOne K (.ref A_TooLarge) (.ref A_LaidError) = some true)
    (x_Book : PySem.W.nsIn K mainGlobals "Book" = some (some (.ref A_Book))) (P1_Book : PySem.W.plainGet K A_Book Str.empty = true) (P2_Book : PySem.W.hasDictIn K A_Book = true) (P3_Book : PySem.W.plainOver K A_Book = true) (P4_Book : PySem.W.findIn K (.ref A_Book) "__setattr__" = some (some (.builtin "object.__setattr__")))
    (x_Galley : PySem.W.nsIn K mainGlobals "Galley" = some (some (.ref A_Galley))) (P1_Galley : PySem.W.plainGet K A_Galley Str.empty = true) (P2_Galley : PySem.W.hasDictIn K A_Galley = true) (P3_Galley : PySem.W.plainOver K A_Galley = true) (P4_Galley : PySem.W.findIn K (.ref A_Galley) "__setattr__" = some (some (.builtin "object.__setattr__")))
    (M1_Book : PySem.W.makesIn K A_Book = true) (M2_Book : PySem.W.findIn K (.ref A_Book) "__init__" = some (some (.ref f20))) (M3_Book : PySem.W.isFn K (.ref f20) = true) (M4_Book : PySem.W.keepIn K (.ref A_Book) = true)
    (M1_Galley : PySem.W.makesIn K A_Galley = true) (M2_Galley : PySem.W.findIn K (.ref A_Galley) "__init__" = some (some (.ref f24))) (M3_Galley : PySem.W.isFn K (.ref f24) = true) (M4_Galley : PySem.W.keepIn K (.ref A_Galley) = true)
    (N_Book_columns : PySem.W.findIn K (.ref A_Book) "columns" = some none)
    (N_Book_field_values : PySem.W.findIn K (.ref A_Book) "field_values" = some none)
    (N_Book_full : PySem.W.findIn K (.ref A_Book) "full" = some none)
    (N_Book_gutter : PySem.W.findIn K (.ref A_Book) "gutter" = some none)
    (N_Book_height : PySem.W.findIn K (.ref A_Book) "height" = some none)
    (N_Book_joint : PySem.W.findIn K (.ref A_Book) "joint" = some none)
    (N_Book_keep : PySem.W.findIn K (.ref A_Book) "keep" = some none)
    (N_Book_orphan : PySem.W.findIn K (.ref A_Book) "orphan" = some none)
    (N_Book_over : PySem.W.findIn K (.ref A_Book) "over" = some none)
    (N_Book_room : PySem.W.findIn K (.ref A_Book) "room" = some none)
    (N_Book_wait : PySem.W.findIn K (.ref A_Book) "wait" = some none)
    (N_Book_widow : PySem.W.findIn K (.ref A_Book) "widow" = some none)
    (N_Galley_all_figures : PySem.W.findIn K (.ref A_Galley) "all_figures" = some none)
    (N_Galley_all_pieces : PySem.W.findIn K (.ref A_Galley) "all_pieces" = some none)
    (N_Galley_blocks : PySem.W.findIn K (.ref A_Galley) "blocks" = some none)
    (N_Galley_spans : PySem.W.findIn K (.ref A_Galley) "spans" = some none)
    (m1_Galley___iter__ : PySem.W.findIn K (.ref A_Galley) "__iter__" = some (some (.ref f41))) (m2_Galley___iter__ : PySem.W.isFn K (.ref f41) = true)
    (m1_Galley___len__ : PySem.W.findIn K (.ref A_Galley) "__len__" = some (some (.ref f12))) (m2_Galley___len__ : PySem.W.isFn K (.ref f12) = true)
    (m1_Galley_block_at : PySem.W.findIn K (.ref A_Galley) "block_at" = some (some (.ref f1))) (m2_Galley_block_at : PySem.W.isFn K (.ref f1) = true)
    (p1_Galley_figures : PySem.W.findIn K (.ref A_Galley) "figures" = some (some (.ref pp_Galley_figures))) (p2_Galley_figures : PySem.W.recIn K pp_Galley_figures "property" = some (.ref f10 :: pq_Galley_figures)) (p3_Galley_figures : PySem.W.specialIn K (.ref pp_Galley_figures) "__get__" = some (some (.builtin "property.__get__"))) (p4_Galley_figures : PySem.W.takesIn K (.ref pp_Galley_figures) = some true)
    (p1_Galley_pieces : PySem.W.findIn K (.ref A_Galley) "pieces" = some (some (.ref pp_Galley_pieces))) (p2_Galley_pieces : PySem.W.recIn K pp_Galley_pieces "property" = some (.ref f0 :: pq_Galley_pieces)) (p3_Galley_pieces : PySem.W.specialIn K (.ref pp_Galley_pieces) "__get__" = some (some (.builtin "property.__get__"))) (p4_Galley_pieces : PySem.W.takesIn K (.ref pp_Galley_pieces) = some true)
    (R1_Book : PySem.W.readsIn K A_Book (.type "type") = true) (R2_Book : PySem.W.specialIn K (.ref A_Book) "__getattribute__" = some (some (.builtin "type.__getattribute__")))
    (V_Book_FIELDS : PySem.W.findCls K (.ref A_Book) (.type "type") "FIELDS" = some (.val (.ref kA_Book_FIELDS_0)))
    (kl_Book_FIELDS_0 : K.lookup kA_Book_FIELDS_0 = some ⟨.type "tuple", kod_Book_FIELDS_0, .seq #[.str "room" kt_Book_FIELDS_0_0, .str "height" kt_Book_FIELDS_0_1, .str "joint" kt_Book_FIELDS_0_2, .str "over" kt_Book_FIELDS_0_3, .str "keep" kt_Book_FIELDS_0_4, .str "orphan" kt_Book_FIELDS_0_5, .str "widow" kt_Book_FIELDS_0_6, .str "wait" kt_Book_FIELDS_0_7, .str "columns" kt_Book_FIELDS_0_8, .str "gutter" kt_Book_FIELDS_0_9, .str "full" kt_Book_FIELDS_0_10] kn_Book_FIELDS_0, ksl_Book_FIELDS_0⟩) :
    ∃ fd : FuncData, (∀ (s : Shared) (v : Value), BindsTo s fd ⟨[v], []⟩ [("_law_script", v)]) ∧ ∀ base : Heap, K.In base → base.Ns mainGlobals mg → FnOk l.prog w K mg base (L2.CX l.prog w) 15 fa fd ["_law_script"] (spLaw K) := by
  have e := hfa.symm.trans (PySem.W.mg_of X G a40)
  cases e
  obtain ⟨T, e1, e2⟩ := txt_mk X G l0 c0 k0 l1 c1 k1 a2 l2 c2 k2 a3 l3 c3 k3 a4 l4 c4 k4 a5 l5 c5 k5 a6 l6 c6 k6 a7 l7 c7 k7 a8 l8 c8 k8 a9 l9 c9 k9 l10 c10 k10 a11 l11 c11 k11 l12 c12 k12 a13 l13 c13 k13 a14 l14 c14 k14 a15 l15 c15 k15 a16 l16 c16 k16 a17 l17 c17 k17 a18 l18 c18 k18 a19 l19 c19 k19 l20 c20 k20 kw20_0 kw20_1 kw20_2 a21 l21 c21 k21 a22 l22 c22 k22 a23 l23 c23 k23 l24 c24 k24 lT24 lE24 a25 l25 c25 k25 a26 l26 c26 k26 a27 l27 c27 k27 a28 l28 c28 k28 a29 l29 c29 k29 a30 l30 c30 k30 a31 l31 c31 k31 a32 l32 c32 k32 a33 l33 c33 k33 a34 l34 c34 k34 a35 l35 c35 k35 a36 l36 c36 k36 a37 l37 c37 k37 a38 l38 c38 k38 a39 l39 c39 k39 a40 l40 c40 k40 l41 c41 k41 z_bool z_enumerate z_int z_isinstance z_iter z_len z_list z_max z_range z_str z_sum z_tuple z_zip y_LEAST kl_LEAST_0 y_MOST kl_MOST_0 y_MOST_FIGURES y_MOST_PIECES y_START kl_START_0 x_BadBook x_BadLaying x_LaidError x_NoSuchNumber x_TooLarge X1_BadBook X2_BadBook X3_BadBook X4_BadBook X5_BadBook X6_BadBook X7_BadBook X8_BadBook X9_BadBook Xa_BadBook Xb_BadBook Y0_BadBook Xc_BadBook Xd_BadBook Xe_BadBook Xf_BadBook Xg_BadBook Xh_BadBook Xi_BadBook E_BadBook_BadLaying Q_BadBook_LaidError X1_BadLaying X2_BadLaying X3_BadLaying X4_BadLaying X5_BadLaying X6_BadLaying X7_BadLaying X8_BadLaying X9_BadLaying Xa_BadLaying Xb_BadLaying Y0_BadLaying Xc_BadLaying Xd_BadLaying Xe_BadLaying Xf_BadLaying Xg_BadLaying Xh_BadLaying Xi_BadLaying E_BadLaying_BadLaying Q_BadLaying_LaidError X1_NoSuchNumber X2_NoSuchNumber X3_NoSuchNumber X4_NoSuchNumber X5_NoSuchNumber X6_NoSuchNumber X7_NoSuchNumber X8_NoSuchNumber X9_NoSuchNumber Xa_NoSuchNumber Xb_NoSuchNumber Y0_NoSuchNumber Xc_NoSuchNumber Xd_NoSuchNumber Xe_NoSuchNumber Xf_NoSuchNumber Xg_NoSuchNumber Xh_NoSuchNumber Xi_NoSuchNumber E_NoSuchNumber_BadLaying Q_NoSuchNumber_LaidError X1_TooLarge X2_TooLarge X3_TooLarge X4_TooLarge X5_TooLarge X6_TooLarge X7_TooLarge X8_TooLarge X9_TooLarge Xa_TooLarge Xb_TooLarge Y0_TooLarge Xc_TooLarge Xd_TooLarge Xe_TooLarge Xf_TooLarge Xg_TooLarge Xh_TooLarge Xi_TooLarge E_TooLarge_BadLaying Q_TooLarge_LaidError x_Book P1_Book P2_Book P3_Book P4_Book x_Galley P1_Galley P2_Galley P3_Galley P4_Galley M1_Book M2_Book M3_Book M4_Book M1_Galley M2_Galley M3_Galley M4_Galley N_Book_columns N_Book_field_values N_Book_full N_Book_gutter N_Book_height N_Book_joint N_Book_keep N_Book_orphan N_Book_over N_Book_room N_Book_wait N_Book_widow N_Galley_all_figures N_Galley_all_pieces N_Galley_blocks N_Galley_spans m1_Galley___iter__ m2_Galley___iter__ m1_Galley___len__ m2_Galley___len__ m1_Galley_block_at m2_Galley_block_at p1_Galley_figures p2_Galley_figures p3_Galley_figures p4_Galley_figures p1_Galley_pieces p2_Galley_pieces p3_Galley_pieces p4_Galley_pieces R1_Book R2_Book V_Book_FIELDS kl_Book_FIELDS_0
  refine ⟨PySem.W.fnOf "law" "law" (defArgs s_law) (defBody s_law) (defScope s_law) .none kV40 dc40 pm40 an40 cd40 ct40, fun s v => .of_eq rfl, fun base _ _ => ?_⟩
  have z := ok_end (P := l.prog) (w := w) (base := base) T
  rw [e1, e2] at z
  exact z
end Lk
end S_P_end
section S_P_top
set_option Elab.async false
set_option linter.all false
open PySem PySem.W PyProof.Rows
set_option maxRecDepth 100000 in
set_option maxHeartbeats 0 in
theorem PySem.Challenge.cw_laidforall_k45_broken_at_holds : PySem.Challenge.rw_laidforall_k45_broken_at.Holds := by
  w_on; o_law; k_head; (case hw => w_witness2)
  k_fill
  refine L2.walk_of (l := PySem.Challenge.rw_laidforall_k45_broken_at) (n := 63) (k := 15) (x := "_law_script") (CX := fun w => L2.CX PySem.Challenge.rw_laidforall_k45_broken_at.prog w) (sp := fun w => Lk.spLaw _) rfl (by decide) rfl ⟨rfl, by decide, by decide⟩ (fun w h Y => PySem.W.kIn_of Y) ?F (fun _ _ a ns hl _ hS => ⟨a, ns, rfl, hS, hl, fun _ => rfl⟩) (fun _ _ _ _ _ h => Dx.cx_never h)
  case F =>
    intro w mg fa h KX G hmg
    refine' Lk.all_mk KX G hmg ?l0 ?c0 ?k0 ?l1 ?c1 ?k1 ?a2 ?l2 ?c2 ?k2 ?a3 ?l3 ?c3 ?k3 ?a4 ?l4 ?c4 ?k4 ?a5 ?l5 ?c5 ?k5 ?a6 ?l6 ?c6 ?k6 ?a7 ?l7 ?c7 ?k7 ?a8 ?l8 ?c8 ?k8 ?a9 ?l9 ?c9 ?k9 ?l10 ?c10 ?k10 ?a11 ?l11 ?c11 ?k11 ?l12 ?c12 ?k12 ?a13 ?l13 ?c13 ?k13 ?a14 ?l14 ?c14 ?k14 ?a15 ?l15 ?c15 ?k15 ?a16 ?l16 ?c16 ?k16 ?a17 ?l17 ?c17 ?k17 ?a18 ?l18 ?c18 ?k18 ?a19 ?l19 ?c19 ?k19 ?l20 ?c20 ?k20 ?kw20_0 ?kw20_1 ?kw20_2 ?a21 ?l21 ?c21 ?k21 ?a22 ?l22 ?c22 ?k22 ?a23 ?l23 ?c23 ?k23 ?l24 ?c24 ?k24 ?lT24 ?lE24 ?a25 ?l25 ?c25 ?k25 ?a26 ?l26 ?c26 ?k26 ?a27 ?l27 ?c27 ?k27 ?a28 ?l28 ?c28 ?k28 ?a29 ?l29 ?c29 ?k29 ?a30 ?l30 ?c30 ?k30 ?a31 ?l31 ?c31 ?k31 ?a32 ?l32 ?c32 ?k32 ?a33 ?l33 ?c33 ?k33 ?a34 ?l34 ?c34 ?k34 ?a35 ?l35 ?c35 ?k35 ?a36 ?l36 ?c36 ?k36 ?a37 ?l37 ?c37 ?k37 ?a38 ?l38 ?c38 ?k38 ?a39 ?l39 ?c39 ?k39 ?a40 ?l40 ?c40 ?k40 ?l41 ?c41 ?k41 ?z_bool ?z_enumerate ?z_int ?z_isinstance ?z_iter ?z_len ?z_list ?z_max ?z_range ?z_str ?z_sum ?z_tuple ?z_zip ?y_LEAST ?kl_LEAST_0 ?y_MOST ?kl_MOST_0 ?y_MOST_FIGURES ?y_MOST_PIECES ?y_START ?kl_START_0 ?x_BadBook ?x_BadLaying ?x_LaidError ?x_NoSuchNumber ?x_TooLarge ?X1_BadBook ?X2_BadBook ?X3_BadBook ?X4_BadBook ?X5_BadBook ?X6_BadBook ?X7_BadBook ?X8_BadBook ?X9_BadBook ?Xa_BadBook ?Xb_BadBook ?Y0_BadBook ?Xc_BadBook ?Xd_BadBook ?Xe_BadBook ?Xf_BadBook ?Xg_BadBook ?Xh_BadBook ?Xi_BadBook ?E_BadBook_BadLaying ?Q_BadBook_LaidError ?X1_BadLaying ?X2_BadLaying ?X3_BadLaying ?X4_BadLaying ?X5_BadLaying ?X6_BadLaying ?X7_BadLaying ?X8_BadLaying ?X9_BadLaying ?Xa_BadLaying ?Xb_BadLaying ?Y0_BadLaying ?Xc_BadLaying ?Xd_BadLaying ?Xe_BadLaying ?Xf_BadLaying ?Xg_BadLaying ?Xh_BadLaying ?Xi_BadLaying ?E_BadLaying_BadLaying ?Q_BadLaying_LaidError ?X1_NoSuchNumber ?X2_NoSuchNumber ?X3_NoSuchNumber ?X4_NoSuchNumber ?X5_NoSuchNumber ?X6_NoSuchNumber ?X7_NoSuchNumber ?X8_NoSuchNumber ?X9_NoSuchNumber ?Xa_NoSuchNumber ?Xb_NoSuchNumber ?Y0_NoSuchNumber ?Xc_NoSuchNumber ?Xd_NoSuchNumber ?Xe_NoSuchNumber ?Xf_NoSuchNumber ?Xg_NoSuchNumber ?Xh_NoSuchNumber ?Xi_NoSuchNumber ?E_NoSuchNumber_BadLaying ?Q_NoSuchNumber_LaidError ?X1_TooLarge ?X2_TooLarge ?X3_TooLarge ?X4_TooLarge ?X5_TooLarge ?X6_TooLarge ?X7_TooLarge ?X8_TooLarge ?X9_TooLarge ?Xa_TooLarge ?Xb_TooLarge ?Y0_TooLarge ?Xc_TooLarge ?Xd_TooLarge ?Xe_TooLarge ?Xf_TooLarge ?Xg_TooLarge ?Xh_TooLarge ?Xi_TooLarge ?E_TooLarge_BadLaying ?Q_TooLarge_LaidError ?x_Book ?P1_Book ?P2_Book ?P3_Book ?P4_Book ?x_Galley ?P1_Galley ?P2_Galley ?P3_Galley ?P4_Galley ?M1_Book ?M2_Book ?M3_Book ?M4_Book ?M1_Galley ?M2_Galley ?M3_Galley ?M4_Galley ?N_Book_columns ?N_Book_field_values ?N_Book_full ?N_Book_gutter ?N_Book_height ?N_Book_joint ?N_Book_keep ?N_Book_orphan ?N_Book_over ?N_Book_room ?N_Book_wait ?N_Book_widow ?N_Galley_all_figures ?N_Galley_all_pieces ?N_Galley_blocks ?N_Galley_spans ?m1_Galley___iter__ ?m2_Galley___iter__ ?m1_Galley___len__ ?m2_Galley___len__ ?m1_Galley_block_at ?m2_Galley_block_at ?p1_Galley_figures ?p2_Galley_figures ?p3_Galley_figures ?p4_Galley_figures ?p1_Galley_pieces ?p2_Galley_pieces ?p3_Galley_pieces ?p4_Galley_pieces ?R1_Book ?R2_Book ?V_Book_FIELDS ?kl_Book_FIELDS_0
    (case y_LEAST => k_is)
    (case y_MOST => k_is)
    (case y_MOST_FIGURES => k_is)
    (case y_MOST_PIECES => k_is)
    (case y_START => k_is)
    (case x_BadBook => k_is)
    (case x_BadLaying => k_is)
    (case x_LaidError => k_is)
    (case x_NoSuchNumber => k_is)
    (case x_TooLarge => k_is)
    (case x_Book => k_is)
    (case x_Galley => k_is)
    (case V_Book_FIELDS => k_is)
    (case kl_Book_FIELDS_0 => k_is)
    (case kl_LEAST_0 => k_is)
    (case kl_MOST_0 => k_is)
    (case kl_START_0 => k_is)
    (case M2_Book => k_is)
    (case M2_Galley => k_is)
    (case m1_Galley___iter__ => k_is)
    (case m1_Galley___len__ => k_is)
    (case m1_Galley_block_at => k_is)
    (case p1_Galley_figures => k_is)
    (case p1_Galley_pieces => k_is)
    (case p2_Galley_figures => k_is)
    (case p2_Galley_pieces => k_is)
    (case l0 => k_is)
    (case c0 => k_is)
    (case k0 => k_is)
    (case l1 => k_is)
    (case c1 => k_is)
    (case k1 => k_is)
    (case a2 => k_is)
    (case l2 => k_is)
    (case c2 => k_is)
    (case k2 => k_is)
    (case a3 => k_is)
    (case l3 => k_is)
    (case c3 => k_is)
    (case k3 => k_is)
    (case a4 => k_is)
    (case l4 => k_is)
    (case c4 => k_is)
    (case k4 => k_is)
    (case a5 => k_is)
    (case l5 => k_is)
    (case c5 => k_is)
    (case k5 => k_is)
    (case a6 => k_is)
    (case l6 => k_is)
    (case c6 => k_is)
    (case k6 => k_is)
    (case a7 => k_is)
    (case l7 => k_is)
    (case c7 => k_is)
    (case k7 => k_is)
    (case a8 => k_is)
    (case l8 => k_is)
    (case c8 => k_is)
    (case k8 => k_is)
    (case a9 => k_is)
    (case l9 => k_is)
    (case c9 => k_is)
    (case k9 => k_is)
    (case l10 => k_is)
    (case c10 => k_is)
    (case k10 => k_is)
    (case a11 => k_is)
    (case l11 => k_is)
    (case c11 => k_is)
    (case k11 => k_is)
    (case l12 => k_is)
    (case c12 => k_is)
    (case k12 => k_is)
    (case a13 => k_is)
    (case l13 => k_is)
    (case c13 => k_is)
    (case k13 => k_is)
    (case a14 => k_is)
    (case l14 => k_is)
    (case c14 => k_is)
    (case k14 => k_is)
    (case a15 => k_is)
    (case l15 => k_is)
    (case c15 => k_is)
    (case k15 => k_is)
    (case a16 => k_is)
    (case l16 => k_is)
    (case c16 => k_is)
    (case k16 => k_is)
    (case a17 => k_is)
    (case l17 => k_is)
    (case c17 => k_is)
    (case k17 => k_is)
    (case a18 => k_is)
    (case l18 => k_is)
    (case c18 => k_is)
    (case k18 => k_is)
    (case a19 => k_is)
    (case l19 => k_is)
    (case c19 => k_is)
    (case k19 => k_is)
    (case l20 => k_is)
    (case c20 => k_is)
    (case k20 => k_is)
    (case kw20_0 => k_is)
    (case kw20_1 => k_is)
    (case kw20_2 => k_is)
    (case a21 => k_is)
    (case l21 => k_is)
    (case c21 => k_is)
    (case k21 => k_is)
    (case a22 => k_is)
    (case l22 => k_is)
    (case c22 => k_is)
    (case k22 => k_is)
    (case a23 => k_is)
    (case l23 => k_is)
    (case c23 => k_is)
    (case k23 => k_is)
    (case l24 => k_is)
    (case c24 => k_is)
    (case k24 => k_is)
    (case lT24 => k_is)
    (case lE24 => k_is)
    (case a25 => k_is)
    (case l25 => k_is)
    (case c25 => k_is)
    (case k25 => k_is)
    (case a26 => k_is)
    (case l26 => k_is)
    (case c26 => k_is)
    (case k26 => k_is)
    (case a27 => k_is)
    (case l27 => k_is)
    (case c27 => k_is)
    (case k27 => k_is)
    (case a28 => k_is)
    (case l28 => k_is)
    (case c28 => k_is)
    (case k28 => k_is)
    (case a29 => k_is)
    (case l29 => k_is)
    (case c29 => k_is)
    (case k29 => k_is)
    (case a30 => k_is)
    (case l30 => k_is)
    (case c30 => k_is)
    (case k30 => k_is)
    (case a31 => k_is)
    (case l31 => k_is)
    (case c31 => k_is)
    (case k31 => k_is)
    (case a32 => k_is)
    (case l32 => k_is)
    (case c32 => k_is)
    (case k32 => k_is)
    (case a33 => k_is)
    (case l33 => k_is)
    (case c33 => k_is)
    (case k33 => k_is)
    (case a34 => k_is)
    (case l34 => k_is)
    (case c34 => k_is)
    (case k34 => k_is)
    (case a35 => k_is)
    (case l35 => k_is)
    (case c35 => k_is)
    (case k35 => k_is)
    (case a36 => k_is)
    (case l36 => k_is)
    (case c36 => k_is)
    (case k36 => k_is)
    (case a37 => k_is)
    (case l37 => k_is)
    (case c37 => k_is)
    (case k37 => k_is)
    (case a38 => k_is)
    (case l38 => k_is)
    (case c38 => k_is)
    (case k38 => k_is)
    (case a39 => k_is)
    (case l39 => k_is)
    (case c39 => k_is)
    (case k39 => k_is)
    (case a40 => k_is)
    (case l40 => k_is)
    (case c40 => k_is)
    (case k40 => k_is)
    (case l41 => k_is)
    (case c41 => k_is)
    (case k41 => k_is)
    (case z_bool => k_is)
    (case z_enumerate => k_is)
    (case z_int => k_is)
    (case z_isinstance => k_is)
    (case z_iter => k_is)
    (case z_len => k_is)
    (case z_list => k_is)
    (case z_max => k_is)
    (case z_range => k_is)
    (case z_str => k_is)
    (case z_sum => k_is)
    (case z_tuple => k_is)
    (case z_zip => k_is)
    (case X1_BadBook => k_is)
    (case X2_BadBook => decide +kernel)
    (case X3_BadBook => k_is)
    (case X4_BadBook => k_is)
    (case X5_BadBook => k_is)
    (case X6_BadBook => k_is)
    (case X7_BadBook => k_is)
    (case X8_BadBook => k_is)
    (case X9_BadBook => k_is)
    (case Xa_BadBook => k_is)
    (case Xb_BadBook => k_is)
    (case Y0_BadBook => k_is)
    (case Xc_BadBook => k_is)
    (case Xd_BadBook => k_is)
    (case Xe_BadBook => k_is)
    (case Xf_BadBook => k_is)
    (case Xg_BadBook => k_is)
    (case Xh_BadBook => k_is)
    (case Xi_BadBook => k_is)
    (case E_BadBook_BadLaying => first | k_is | rfl | decide +kernel)
    (case Q_BadBook_LaidError => first | k_is | rfl | decide +kernel)
    (case X1_BadLaying => k_is)
    (case X2_BadLaying => decide +kernel)
    (case X3_BadLaying => k_is)
    (case X4_BadLaying => k_is)
    (case X5_BadLaying => k_is)
    (case X6_BadLaying => k_is)
    (case X7_BadLaying => k_is)
    (case X8_BadLaying => k_is)
    (case X9_BadLaying => k_is)
    (case Xa_BadLaying => k_is)
    (case Xb_BadLaying => k_is)
    (case Y0_BadLaying => k_is)
    (case Xc_BadLaying => k_is)
    (case Xd_BadLaying => k_is)
    (case Xe_BadLaying => k_is)
    (case Xf_BadLaying => k_is)
    (case Xg_BadLaying => k_is)
    (case Xh_BadLaying => k_is)
    (case Xi_BadLaying => k_is)
    (case E_BadLaying_BadLaying => first | k_is | rfl | decide +kernel)
    (case Q_BadLaying_LaidError => first | k_is | rfl | decide +kernel)
    (case X1_NoSuchNumber => k_is)
    (case X2_NoSuchNumber => decide +kernel)
    (case X3_NoSuchNumber => k_is)
    (case X4_NoSuchNumber => k_is)
    (case X5_NoSuchNumber => k_is)
    (case X6_NoSuchNumber => k_is)
    (case X7_NoSuchNumber => k_is)
    (case X8_NoSuchNumber => k_is)
    (case X9_NoSuchNumber => k_is)
    (case Xa_NoSuchNumber => k_is)
    (case Xb_NoSuchNumber => k_is)
    (case Y0_NoSuchNumber => k_is)
    (case Xc_NoSuchNumber => k_is)
    (case Xd_NoSuchNumber => k_is)
    (case Xe_NoSuchNumber => k_is)
    (case Xf_NoSuchNumber => k_is)
    (case Xg_NoSuchNumber => k_is)
    (case Xh_NoSuchNumber => k_is)
    (case Xi_NoSuchNumber => k_is)
    (case E_NoSuchNumber_BadLaying => first | k_is | rfl | decide +kernel)
    (case Q_NoSuchNumber_LaidError => first | k_is | rfl | decide +kernel)
    (case X1_TooLarge => k_is)
    (case X2_TooLarge => decide +kernel)
    (case X3_TooLarge => k_is)
    (case X4_TooLarge => k_is)
    (case X5_TooLarge => k_is)
    (case X6_TooLarge => k_is)
    (case X7_TooLarge => k_is)
    (case X8_TooLarge => k_is)
    (case X9_TooLarge => k_is)
    (case Xa_TooLarge => k_is)
    (case Xb_TooLarge => k_is)
    (case Y0_TooLarge => k_is)
    (case Xc_TooLarge => k_is)
    (case Xd_TooLarge => k_is)
    (case Xe_TooLarge => k_is)
    (case Xf_TooLarge => k_is)
    (case Xg_TooLarge => k_is)
    (case Xh_TooLarge => k_is)
    (case Xi_TooLarge => k_is)
    (case E_TooLarge_BadLaying => first | k_is | rfl | decide +kernel)
    (case Q_TooLarge_LaidError => first | k_is | rfl | decide +kernel)
    (case P1_Book => k_is)
    (case P2_Book => k_is)
    (case P3_Book => k_is)
    (case P4_Book => k_is)
    (case P1_Galley => k_is)
    (case P2_Galley => k_is)
    (case P3_Galley => k_is)
    (case P4_Galley => k_is)
    (case M1_Book => k_is)
    (case M3_Book => k_is)
    (case M4_Book => k_is)
    (case M1_Galley => k_is)
    (case M3_Galley => k_is)
    (case M4_Galley => k_is)
    (case N_Book_columns => k_is)
    (case N_Book_field_values => k_is)
    (case N_Book_full => k_is)
    (case N_Book_gutter => k_is)
    (case N_Book_height => k_is)
    (case N_Book_joint => k_is)
    (case N_Book_keep => k_is)
    (case N_Book_orphan => k_is)
    (case N_Book_over => k_is)
    (case N_Book_room => k_is)
    (case N_Book_wait => k_is)
    (case N_Book_widow => k_is)
    (case N_Galley_all_figures => k_is)
    (case N_Galley_all_pieces => k_is)
    (case N_Galley_blocks => k_is)
    (case N_Galley_spans => k_is)
    (case m2_Galley___iter__ => k_is)
    (case m2_Galley___len__ => k_is)
    (case m2_Galley_block_at => k_is)
    (case p3_Galley_figures => k_is)
    (case p4_Galley_figures => k_is)
    (case p3_Galley_pieces => k_is)
    (case p4_Galley_pieces => k_is)
    (case R1_Book => k_is)
    (case R2_Book => k_is)
end S_P_top
