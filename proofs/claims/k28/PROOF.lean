import PyProof.Rows.All
import Wide.All
import OpenK.AllK
import Wide.FinOn
import HandS.ForMost
import HandS.ForExc
import HandS.Evl
import HandS.Walk
import HandS.IsInst
import HandS.TupAny
import HandS.Deep
import HandS.Flow
import HandS.Wide
import HandS.Text
import HandS.CallSlots
import HandS.ExcInit
import HandS.ExcField
import HandS.ExcIs
import KE.KExcIs
import HandS.FStr
import HandS.Iter
import HandS.Zip0
import PyProof.EnumMake
import PyProof.Draws
import HandS.Style
import HandS.ClsMeth
import KE.GoesMore
import KE.GoesZip
import PyProof.StrOps2
import PyProof.Rows.MatchSeqLen
import KE.KUnpack
import HandS.NoneIn
import HandS.More
import HandS.Star
import HandS.SlotsOwn
import HandS.OwnIter
import HandS.IterVal
import KE.KCallOwn
import KE.KOwnIter
import HandS.TupLen
import HandS.Property
import HandS.Conv
import HandS.SortRule
import KE.KDictDisplayH
import HandS.Defaults
import HandS.TryOnly
import HandS.SortInts
import HandS.SortOrd
import HandS.DictComp
import KE.DataMinMax
import KE.KDictCopyH
import HandS.ListItems
import PyProof.ListStr
import HandS.HotCalls
import PyProof.InstNe
import HandS.MakeKwOnly
import KE.KTupSum
import HandS.TryMany
import PyProof.Rows.StrFirst
import PySem.Challenge.RW_laidforall_k28_joint_rows_are_read
set_option Elab.async false
set_option linter.all false
set_option maxRecDepth 100000
section S_DxA
set_option Elab.async false
set_option linter.all false
set_option maxRecDepth 100000
namespace Dx
open PySem L2
/-- data: what a value stands for, whatever its address -/
inductive D where
  | non
  | bl (b : Bool)
  | int (i : Int)
  | str (s : Str)
  | lst (xs : List D)
  | fz (xs : List D)
  | tup (xs : List D)
  | kt (xs : List D)
  | dk (ks : List Key) (vs : List D)
  | dt (ks : List (List Key)) (vs : List D)
  | obj (c : Str) (ns : List Str) (vs : List D)
  | own (k : Nat)
  | st (k : Nat) (rows : List (List D))
/-- where the classes of the text stand -/
abbrev CM := Str → Option Addr
/-- H' knows all that H knows -/
def Ex (H H' : Hp) : Prop := ∀ a o, H a = some o → H' a = some o
theorem Ex.refl {H : Hp} : Ex H H := fun _ _ h => h
theorem Ex.trans {H H1 H2 : Hp} (a : Ex H H1) (b : Ex H1 H2) : Ex H H2 := fun x o h => b x o (a x o h)
theorem Ex.nn {H H' : Hp} (e : Ex H H') {p : Addr} (h : H' p = none) : H p = none := by
  cases h1 : H p with
  | none => rfl
  | some o => rw [e p o h1] at h; cases h
theorem Ex.new {H : Hp} {p : Addr} {o : HO} (h : H p = none) : Ex H (upd H p o) := fun a u e => by
  rw [upd_ne (ne_of_none e h)]; exact e
theorem Ex.put {H H' : Hp} {p : Addr} {o : HO} (e : Ex H H') (h : H p = none) : Ex H (upd H' p o) := fun a u ha => by
  rw [upd_ne (ne_of_none ha h)]; exact e a u ha
theorem Ex.both {S H : Hp} {p : Addr} {o : HO} (e : Ex S H) : Ex (upd S p o) (upd H p o) := fun a u ha => by
  by_cases h : a = p
  · subst h; rw [upd_same] at ha ⊢; exact ha
  · rw [upd_ne h] at ha ⊢; exact e a u ha
theorem Ex.rd {H H' : Hp} {a : Addr} {u : HO} (e : Ex H H') (h : Rd H a u) : Rd H' a u := by
  rcases h with h | ⟨o, h⟩
  · exact .inl (e a _ h)
  · exact .inr ⟨o, e a _ h⟩
theorem Ex.l {K : PySem.W.Frag} {H H' : Hp} {a : Addr} {xs : List V} (e : Ex H H') (h : SqL K H a xs) : SqL K H' a xs := by
  rcases h with h | h
  · exact .inl (e.rd h)
  · exact .inr h
theorem Ex.t {K : PySem.W.Frag} {H H' : Hp} {a : Addr} {xs : List V} (e : Ex H H') (h : SqT K H a xs) : SqT K H' a xs := by
  rcases h with h | h
  · exact .inl (e.rd h)
  · exact .inr h
mutual
/-- the value v, at the heap S, stands for the data -/
inductive Rp (K : PySem.W.Frag) (cm : CM) (S : Hp) : V → D → Prop
  | non : Rp K cm S .non .non
  | bl (b : Bool) : Rp K cm S (.bl b) (.bl b)
  | int (i : Int) : Rp K cm S (.int i) (.int i)
  | str (x : Str) : Rp K cm S (.str x) (.str x)
  | lst {a : Addr} {xs : List V} {ds : List D} : S a = some (.lst xs) → RpA K cm S xs ds → Rp K cm S (.ref a) (.lst ds)
  | fz {a : Addr} {xs : List V} {ds : List D} : SqL K S a xs → RpA K cm S xs ds → Rp K cm S (.ref a) (.fz ds)
  | tup {a : Addr} {xs : List V} {ds : List D} : S a = some (.tup xs) → RpA K cm S xs ds → Rp K cm S (.ref a) (.tup ds)
  | kt {a : Addr} {xs : List V} {ds : List D} : SqT K S a xs → RpA K cm S xs ds → Rp K cm S (.ref a) (.kt ds)
  | dk {a : Addr} {w : Obj} {kvs : List (Key × V)} {ks : List Key} {ds : List D} : S a = some (.frz w (.dK kvs)) → ks = kvs.map (·.1) → RpA K cm S (kvs.map (·.2)) ds → Rp K cm S (.ref a) (.dk ks ds)
  | dt {a : Addr} {w : Obj} {kvs : List (List Key × V)} {ks : List (List Key)} {ds : List D} : S a = some (.frz w (.dT kvs)) → ks = kvs.map (·.1) → RpA K cm S (kvs.map (·.2)) ds → Rp K cm S (.ref a) (.dt ks ds)
  | obj {a C dx : Addr} {c : Str} {fs : List (Str × V)} {ns : List Str} {ds : List D} : cm c = some C → S a = some (.ins C dx fs) → ns = fs.map (·.1) → RpA K cm S (fs.map (·.2)) ds → Rp K cm S (.ref a) (.obj c ns ds)
inductive RpA (K : PySem.W.Frag) (cm : CM) (S : Hp) : List V → List D → Prop
  | nil : RpA K cm S [] []
  | cons {v : V} {vs : List V} {d : D} {ds : List D} : Rp K cm S v d → RpA K cm S vs ds → RpA K cm S (v :: vs) (d :: ds)
end
section
variable {K : PySem.W.Frag} {cm : CM} {S S' : Hp}
mutual
theorem Rp.mono (e : Ex S S') : ∀ {v : V} {d : D}, Rp K cm S v d → Rp K cm S' v d
  | _, .non, h => by cases h; exact .non
  | _, .bl _, h => by cases h; exact .bl _
  | _, .int _, h => by cases h; exact .int _
  | _, .str _, h => by cases h; exact .str _
  | _, .lst ds, h => by cases h with | lst q r => exact .lst (e _ _ q) (RpA.mono e r)
  | _, .fz ds, h => by cases h with | fz q r => exact .fz (e.l q) (RpA.mono e r)
  | _, .tup ds, h => by cases h with | tup q r => exact .tup (e _ _ q) (RpA.mono e r)
  | _, .kt ds, h => by cases h with | kt q r => exact .kt (e.t q) (RpA.mono e r)
  | _, .dk _ ds, h => by cases h with | dk q k r => exact .dk (e _ _ q) k (RpA.mono e r)
  | _, .dt _ ds, h => by cases h with | dt q k r => exact .dt (e _ _ q) k (RpA.mono e r)
  | _, .obj _ _ ds, h => by cases h with | obj c q k r => exact .obj c (e _ _ q) k (RpA.mono e r)
theorem RpA.mono (e : Ex S S') : ∀ {vs : List V} {ds : List D}, RpA K cm S vs ds → RpA K cm S' vs ds
  | _, [], h => by cases h; exact .nil
  | _, d :: ds, h => by cases h with | cons a r => exact .cons (Rp.mono e a) (RpA.mono e r)
end
theorem RpA.length : ∀ {vs : List V} {ds : List D}, RpA K cm S vs ds → vs.length = ds.length
  | _, _, .nil => rfl
  | _, _, .cons _ r => by simp [RpA.length r]
theorem RpA.get : ∀ {vs : List V} {ds : List D} {i : Nat} {d : D}, RpA K cm S vs ds → ds[i]? = some d → ∃ v, vs[i]? = some v ∧ Rp K cm S v d
  | _, _, _, _, .nil, e => by simp at e
  | _, _, 0, _, .cons h _, e => by simp at e; subst e; exact ⟨_, by simp, h⟩
  | _, _, i + 1, d, .cons _ r, e => by
    obtain ⟨v, h1, h2⟩ := RpA.get (i := i) (d := d) r (by simpa using e)
    exact ⟨v, by simpa using h1, h2⟩
theorem RpA.getV : ∀ {vs : List V} {ds : List D} {i : Nat} {v : V}, RpA K cm S vs ds → vs[i]? = some v → ∃ d, ds[i]? = some d ∧ Rp K cm S v d
  | _, _, _, _, .nil, e => by simp at e
  | _, _, 0, _, .cons h _, e => by simp at e; subst e; exact ⟨_, by simp, h⟩
  | _, _, i + 1, v, .cons _ r, e => by
    obtain ⟨d, h1, h2⟩ := RpA.getV (i := i) (v := v) r (by simpa using e)
    exact ⟨d, by simpa using h1, h2⟩
theorem RpA.app : ∀ {vs us : List V} {ds es : List D}, RpA K cm S vs ds → RpA K cm S us es → RpA K cm S (vs ++ us) (ds ++ es)
  | _, _, _, _, .nil, s => s
  | _, _, _, _, .cons h r, s => .cons h (RpA.app r s)
theorem RpA.one {v : V} {d : D} (h : Rp K cm S v d) : RpA K cm S [v] [d] := .cons h .nil
theorem RpA.take : ∀ {vs : List V} {ds : List D} (n : Nat), RpA K cm S vs ds → RpA K cm S (vs.take n) (ds.take n)
  | _, _, 0, _ => .nil
  | _, _, _ + 1, .nil => .nil
  | _, _, n + 1, .cons h r => .cons h (RpA.take n r)
theorem RpA.drop : ∀ {vs : List V} {ds : List D} (n : Nat), RpA K cm S vs ds → RpA K cm S (vs.drop n) (ds.drop n)
  | _, _, 0, r => r
  | _, _, _ + 1, .nil => .nil
  | _, _, n + 1, .cons _ r => RpA.drop n r
theorem RpA.set {v : V} {d : D} (h : Rp K cm S v d) : ∀ {vs : List V} {ds : List D} (i : Nat), RpA K cm S vs ds → RpA K cm S (vs.set i v) (ds.set i d)
  | _, _, _, .nil => .nil
  | _, _, 0, .cons _ r => .cons h r
  | _, _, i + 1, .cons q r => .cons q (RpA.set h i r)
theorem RpA.reverse : ∀ {vs : List V} {ds : List D}, RpA K cm S vs ds → RpA K cm S vs.reverse ds.reverse
  | _, _, .nil => .nil
  | _, _, .cons h r => by rw [List.reverse_cons, List.reverse_cons]; exact (RpA.reverse r).app (.one h)
end
/-- the content of a mutable object stands for the data, its parts at S -/
inductive RpO (K : PySem.W.Frag) (cm : CM) (S : Hp) : HO → D → Prop
  | lst {xs : List V} {ds : List D} : RpA K cm S xs ds → RpO K cm S (.lst xs) (.lst ds)
  | dk {kvs : List (Key × V)} {ks : List Key} {ds : List D} : ks = kvs.map (·.1) → RpA K cm S (kvs.map (·.2)) ds → RpO K cm S (.dK kvs) (.dk ks ds)
  | dt {kvs : List (List Key × V)} {ks : List (List Key)} {ds : List D} : ks = kvs.map (·.1) → RpA K cm S (kvs.map (·.2)) ds → RpO K cm S (.dT kvs) (.dt ks ds)
  | obj {C dx : Addr} {c : Str} {fs : List (Str × V)} {ns : List Str} {ds : List D} : cm c = some C → ns = fs.map (·.1) → RpA K cm S (fs.map (·.2)) ds → RpO K cm S (.ins C dx fs) (.obj c ns ds)
theorem RpO.mono {K : PySem.W.Frag} {cm : CM} {S S' : Hp} (e : Ex S S') {o : HO} {d : D} (h : RpO K cm S o d) : RpO K cm S' o d := by
  cases h with
  | lst r => exact .lst (r.mono e)
  | dk k r => exact .dk k (r.mono e)
  | dt k r => exact .dt k (r.mono e)
  | obj c k r => exact .obj c k (r.mono e)
def isDct : D → Bool
  | .dk _ _ => true
  | .dt _ _ => true
  | _ => false
theorem RpO.pub {K : PySem.W.Frag} {cm : CM} {S : Hp} {o : HO} {d : D} {p : Addr} (h : RpO K cm S o d) (nd : isDct d = false) (hp : S p = o) : Rp K cm S (.ref p) d := by
  cases h with
  | lst r => exact .lst hp r
  | dk k r => cases nd
  | dt k r => cases nd
  | obj c k r => exact .obj c hp k r
theorem RpO.pubD {K : PySem.W.Frag} {cm : CM} {S : Hp} {o : HO} {d : D} {p : Addr} {w : Obj} (h : RpO K cm S o d) (nd : isDct d = true) (hp : S p = some (.frz w o)) : Rp K cm S (.ref p) d ∧ Mut (some o) := by
  cases h with
  | lst r => cases nd
  | dk k r => exact ⟨.dk hp k r, trivial⟩
  | dt k r => exact ⟨.dt hp k r, trivial⟩
  | obj c k r => cases nd
theorem RpO.mut {K : PySem.W.Frag} {cm : CM} {S : Hp} {o : HO} {d : D} (h : RpO K cm S o d) : Mut (some o) := by
  cases h <;> trivial
/-- not there, or a tuple -/
def Old (o : Option HO) : Prop := o = none ∨ ∃ xs, o = some (.tup xs)
theorem Old.back {H H' : Hp} (e : Ex H H') {a : Addr} (h : Old (H' a)) : Old (H a) := by
  cases q : H a with
  | none => exact .inl rfl
  | some u =>
    rw [e a u q] at h
    rcases h with h | ⟨xs, h⟩
    · cases h
    · cases h; exact .inr ⟨xs, rfl⟩
theorem Old.not {H : Hp} {a : Addr} {o : HO} (h : Old (H a)) (q : H a = some o) : ∃ xs, o = .tup xs := by
  rw [q] at h
  rcases h with h | ⟨xs, h⟩
  · cases h
  · cases h; exact ⟨xs, rfl⟩
/-- S is the part of H that stays; from (S, H) to (S', H') nothing known has changed -/
structure Fwd (S H S' H' : Hp) : Prop where
  s : Ex S S'
  h : Ex H H'
  sub : Ex S' H'
  new : ∀ a o, S' a = some o → S a = none → Old (H a)
theorem Fwd.refl {S H : Hp} (e : Ex S H) : Fwd S H S H := ⟨Ex.refl, Ex.refl, e, fun a o h n => by rw [n] at h; cases h⟩
theorem Fwd.trans {S H S1 H1 S2 H2 : Hp} (a : Fwd S H S1 H1) (b : Fwd S1 H1 S2 H2) : Fwd S H S2 H2 :=
  ⟨a.s.trans b.s, a.h.trans b.h, b.sub, fun p o h n => by
    cases e : S1 p with
    | some u => exact a.new p u e n
    | none => exact (b.new p o h e).back a.h⟩
theorem Fwd.both {S H : Hp} {p : Addr} {o : HO} (e : Ex S H) (n : H p = none) : Fwd S H (upd S p o) (upd H p o) :=
  ⟨Ex.new (e.nn n), Ex.new n, e.both, fun a u h m => by
    by_cases ha : a = p
    · subst ha; exact .inl n
    · rw [upd_ne ha, m] at h; cases h⟩
theorem Fwd.heap {S H : Hp} {p : Addr} {o : HO} (e : Ex S H) (n : H p = none) : Fwd S H S (upd H p o) :=
  ⟨Ex.refl, Ex.new n, e.put (e.nn n), fun a u h m => by rw [m] at h; cases h⟩
/-- a new object known to H' alone becomes one that stays -/
theorem Fwd.pub {S H S' H' : Hp} {p : Addr} {o : HO} (f : Fwd S H S' H') (n : H p = none) (ns : S' p = none) (h : H' p = some o) : Fwd S H (upd S' p o) H' :=
  ⟨f.s.trans (Ex.new ns), f.h, fun a u ha => by
    by_cases hh : a = p
    · subst hh; rw [upd_same] at ha; rw [h]; exact ha
    · rw [upd_ne hh] at ha; exact f.sub a u ha, fun a u ha m => by
    by_cases hh : a = p
    · subst hh; exact .inl n
    · rw [upd_ne hh] at ha; exact f.new a u ha m⟩
inductive Res (α : Type) where
  | ok (a : α)
  | err (c : Str) (ns : List Str) (vs : List D)
  | bad
@[inline] def Res.bind {α β : Type} : Res α → (α → Res β) → Res β
  | .ok a, k => k a
  | .err c ns vs, _ => .err c ns vs
  | .bad, _ => .bad
instance : Monad Res where
  pure := Res.ok
  bind := Res.bind
abbrev Rho := List (Option D)
/-- the end of a statement -/
inductive SR where
  | nx (r : Rho)
  | rt (d : D)
  | bk (r : Rho)
  | ct (r : Rho)
  | er (r : Rho) (c : Str) (ns : List Str) (vs : List D)
  | bad
inductive Ow where
  | v | o | b | w
  | s (pre : List Addr)
  | x (a C dd : Addr)
  | i (a : Addr)
def isO : Ow → Prop
  | .o => True
  | .i _ => True
  | _ => False
structure Cf where
  K : PySem.W.Frag
  cm : CM
  W : WX
  ge : Option (List Ow)
  rm : Bool
/-- a value, or a mutable object read at H whose parts stay -/
def RpB (K : PySem.W.Frag) (cm : CM) (S H : Hp) (v : V) (d : D) : Prop :=
  Rp K cm S v d ∨ ∃ p ho, v = .ref p ∧ H p = some ho ∧ RpO K cm S ho d
section
variable {K : PySem.W.Frag} {cm : CM} {S S' H H' : Hp} {v : V} {d : D}
theorem RpB.mono (h : RpB K cm S H v d) (e : Ex S S') (e' : Ex H H') : RpB K cm S' H' v d := by
  rcases h with h | ⟨p, ho, h1, h2, h3⟩
  · exact .inl (h.mono e)
  · exact .inr ⟨p, ho, h1, e' _ _ h2, h3.mono e⟩
theorem RpB.list {ds : List D} (h : RpB K cm S H v (.lst ds)) (e : Ex S H) : ∃ p xs, v = .ref p ∧ H p = some (.lst xs) ∧ RpA K cm S xs ds := by
  rcases h with h | ⟨p, ho, h1, h2, h3⟩
  · cases h with | lst q r => exact ⟨_, _, rfl, e _ _ q, r⟩
  · cases h3 with | lst r => exact ⟨p, _, h1, h2, r⟩
theorem RpB.int {i : Int} (h : RpB K cm S H v (.int i)) : v = .int i := by
  rcases h with h | ⟨p, ho, h1, h2, h3⟩
  · cases h; rfl
  · cases h3
theorem RpB.bl {b : Bool} (h : RpB K cm S H v (.bl b)) : v = .bl b := by
  rcases h with h | ⟨p, ho, h1, h2, h3⟩
  · cases h; rfl
  · cases h3
theorem RpB.non (h : RpB K cm S H v .non) : v = .non := by
  rcases h with h | ⟨p, ho, h1, h2, h3⟩
  · cases h; rfl
  · cases h3
theorem RpB.str {z : Str} (h : RpB K cm S H v (.str z)) : v = .str z := by
  rcases h with h | ⟨p, ho, h1, h2, h3⟩
  · cases h; rfl
  · cases h3
theorem RpB.tup {ds : List D} (h : RpB K cm S H v (.tup ds)) (e : Ex S H) : ∃ p xs, v = .ref p ∧ SqT K H p xs ∧ RpA K cm S xs ds ∧ S p = some (.tup xs) := by
  rcases h with h | ⟨p, ho, h1, h2, h3⟩
  · cases h with | tup q r => exact ⟨_, _, rfl, .inl (.inl (e _ _ q)), r, q⟩
  · cases h3
theorem RpB.kt {ds : List D} (h : RpB K cm S H v (.kt ds)) (e : Ex S H) : ∃ p xs, v = .ref p ∧ SqT K H p xs ∧ RpA K cm S xs ds ∧ SqT K S p xs := by
  rcases h with h | ⟨p, ho, h1, h2, h3⟩
  · cases h with | kt q r => exact ⟨_, _, rfl, e.t q, r, q⟩
  · cases h3
theorem RpB.fz {ds : List D} (h : RpB K cm S H v (.fz ds)) (e : Ex S H) : ∃ p xs, v = .ref p ∧ SqL K H p xs ∧ RpA K cm S xs ds := by
  rcases h with h | ⟨p, ho, h1, h2, h3⟩
  · cases h with | fz q r => exact ⟨_, _, rfl, e.l q, r⟩
  · cases h3
theorem RpB.dk {ks : List Key} {ds : List D} (h : RpB K cm S H v (.dk ks ds)) (e : Ex S H) : ∃ p kvs, v = .ref p ∧ Rd H p (.dK kvs) ∧ ks = kvs.map (·.1) ∧ RpA K cm S (kvs.map (·.2)) ds := by
  rcases h with h | ⟨p, ho, h1, h2, h3⟩
  · cases h with | dk q k r => exact ⟨_, _, rfl, .inr ⟨_, e _ _ q⟩, k, r⟩
  · cases h3 with | dk k r => exact ⟨p, _, h1, .inl h2, k, r⟩
theorem RpB.dt {ks : List (List Key)} {ds : List D} (h : RpB K cm S H v (.dt ks ds)) (e : Ex S H) : ∃ p kvs, v = .ref p ∧ Rd H p (.dT kvs) ∧ ks = kvs.map (·.1) ∧ RpA K cm S (kvs.map (·.2)) ds := by
  rcases h with h | ⟨p, ho, h1, h2, h3⟩
  · cases h with | dt q k r => exact ⟨_, _, rfl, .inr ⟨_, e _ _ q⟩, k, r⟩
  · cases h3 with | dt k r => exact ⟨p, _, h1, .inl h2, k, r⟩
theorem RpB.obj {n : Str} {ns : List Str} {ds : List D} (h : RpB K cm S H v (.obj n ns ds)) (e : Ex S H) : ∃ p C dx fs, v = .ref p ∧ cm n = some C ∧ H p = some (.ins C dx fs) ∧ ns = fs.map (·.1) ∧ RpA K cm S (fs.map (·.2)) ds := by
  rcases h with h | ⟨p, ho, h1, h2, h3⟩
  · cases h with | obj c q k r => exact ⟨_, _, _, _, rfl, c, e _ _ q, k, r⟩
  · cases h3 with | obj c k r => exact ⟨p, _, _, _, h1, c, h2, k, r⟩
end
/-- a value, or one of the own lists at the places A -/
def RmV (K : PySem.W.Frag) (cm : CM) (A : List Addr) (S : Hp) (v : V) (d : D) : Prop := Rp K cm S v d ∨ ∃ k a, d = .own k ∧ A[k]? = some a ∧ v = .ref a
def RmA (K : PySem.W.Frag) (cm : CM) (A : List Addr) (S : Hp) (vs : List V) (ds : List D) : Prop := vs.length = ds.length ∧ ∀ (i : Nat) v d, vs[i]? = some v → ds[i]? = some d → RmV K cm A S v d
def SlotOk (c : Cf) (H0 S H : Hp) : Ow → V → D → Prop
  | .v, v, d => Rp c.K c.cm S v d
  | .o, v, d => ∃ p ho, v = .ref p ∧ H p = some ho ∧ S p = none ∧ H0 p = none ∧ RpO c.K c.cm S ho d
  | .i a, v, d => v = .ref a ∧ ∃ p ho, v = .ref p ∧ H p = some ho ∧ S p = none ∧ H0 p = none ∧ RpO c.K c.cm S ho d
  | .b, v, d => RpB c.K c.cm S H0 v d
  | .s _, v, d => ∃ k M, d = .st k M
  | .w, v, d => ∃ k, d = .own k
  | .x a C dd, v, d => v = .ref a ∧ ∃ n ns ds fs, d = .obj n ns ds ∧ c.cm n = some C ∧ S dd = some (.xd fs) ∧ ns = fs.map (·.1) ∧ RpA c.K c.cm S (fs.map (·.2)) ds
abbrev kd (G : List Ow) (i : Nat) : Ow := G.getD i .v
/-- the own lists that stand in each other, at the places A -/
structure StoOk (K : PySem.W.Frag) (cm : CM) (H0 : Hp) (G : List Ow) (S H : Hp) (σ : St) (r : Rho) (A : List Addr) : Prop where
  nod : A.Nodup
  out : ∀ a ∈ A, S a = none ∧ H0 a = none ∧ ∃ xs, H a = some (.lst xs)
  own : ∀ i d p, r[i]? = some (some d) → isO (kd G i) → σ[i]? = some (some (.ref p)) → p ∉ A
  st : ∀ i k M P, kd G i = .s P → r[i]? = some (some (.st k M)) → (P <+: A ∧ A.length = M.length) ∧ (∃ a, A[k]? = some a ∧ σ[i]? = some (some (.ref a))) ∧ ∀ (n : Nat) row, M[n]? = some row → ∃ a xs, A[n]? = some a ∧ H a = some (.lst xs) ∧ RmA K cm A S xs row
  al : ∀ i k, kd G i = .w → r[i]? = some (some (.own k)) → ∃ a, A[k]? = some a ∧ σ[i]? = some (some (.ref a))
theorem RmA.mono {K : PySem.W.Frag} {cm : CM} {A : List Addr} {S S' : Hp} {vs : List V} {ds : List D} (h : RmA K cm A S vs ds) (e : Ex S S') : RmA K cm A S' vs ds :=
  ⟨h.1, fun i v d hv hd => (h.2 i v d hv hd).imp (fun z => z.mono e) id⟩
theorem StoOk.sub {K : PySem.W.Frag} {cm : CM} {H0 S H S' H' : Hp} {G G' : List Ow} {σ σ' : St} {r r' : Rho} {A : List Addr} (h : StoOk K cm H0 G S H σ r A) (hS : ∀ a ∈ A, S' a = none) (hH : ∀ a ∈ A, H' a = H a) (eS : Ex S S')
    (ho : ∀ i d p, r'[i]? = some (some d) → isO (kd G' i) → σ'[i]? = some (some (.ref p)) → p ∉ A)
    (hs : ∀ i d, (∃ P, kd G' i = .s P) ∨ kd G' i = .w → r'[i]? = some (some d) → kd G i = kd G' i ∧ r[i]? = some (some d) ∧ σ'[i]? = σ[i]?) : StoOk K cm H0 G' S' H' σ' r' A where
  nod := h.nod
  out := fun a ha => by
    obtain ⟨_, h2, h3⟩ := h.out a ha
    exact ⟨hS a ha, h2, by rw [hH a ha]; exact h3⟩
  own := ho
  st := fun i k M P hi hr => by
    obtain ⟨a1, a2, a3⟩ := hs i _ (.inl ⟨P, hi⟩) hr
    obtain ⟨b1, b2, b3⟩ := h.st i k M P (a1.trans hi) a2
    refine ⟨b1, by rw [a3]; exact b2, fun n row hn => ?_⟩
    obtain ⟨a, xs, c1, c2, c3⟩ := b3 n row hn
    exact ⟨a, xs, c1, by rw [hH a (List.mem_of_getElem? c1)]; exact c2, c3.mono eS⟩
  al := fun i k hi hr => by
    obtain ⟨a1, a2, a3⟩ := hs i _ (.inr hi) hr
    rw [a3]
    exact h.al i k (a1.trans hi) a2
theorem StoOk.go {K : PySem.W.Frag} {cm : CM} {H0 S H S' H' : Hp} {G : List Ow} {σ : St} {r : Rho} {A : List Addr} (h : StoOk K cm H0 G S H σ r A) (f : Fwd S H S' H') : StoOk K cm H0 G S' H' σ r A :=
  h.sub (fun a ha => by
    obtain ⟨h1, _, xs, h3⟩ := h.out a ha
    cases e : S' a with
    | none => rfl
    | some u => obtain ⟨ys, z⟩ := (f.new a u e h1).not h3; cases z) (fun a ha => by
    obtain ⟨_, _, xs, h3⟩ := h.out a ha
    rw [h3]; exact f.h a _ h3) f.s h.own fun i d hi hr => ⟨rfl, hr, rfl⟩
/-- no such lists -/
theorem StoOk.nil {K : PySem.W.Frag} {cm : CM} {H0 S H : Hp} {G : List Ow} {σ : St} {r : Rho} (h : ∀ i d, r[i]? = some (some d) → (∀ P, kd G i ≠ .s P) ∧ kd G i ≠ .w) : StoOk K cm H0 G S H σ r [] where
  nod := List.nodup_nil
  out := fun a ha => by cases ha
  own := fun i d p _ _ _ hp => by cases hp
  st := fun i k M P hi hr => absurd hi ((h i _ hr).1 P)
  al := fun i k hi hr => absurd hi (h i _ hr).2
structure EnvOk (c : Cf) (S0 H0 : Hp) (G : List Ow) (S H : Hp) (σ : St) (r : Rho) : Prop where
  fwd : Fwd S0 H0 S H
  len : σ.length = r.length
  slot : ∀ i d, r[i]? = some (some d) → ∃ v, σ[i]? = some (some v) ∧ SlotOk c H0 S H (kd G i) v d
  sep : ∀ i j d e p, r[i]? = some (some d) → r[j]? = some (some e) → isO (kd G i) → isO (kd G j) → σ[i]? = some (some (.ref p)) → σ[j]? = some (some (.ref p)) → i = j
  sto : ∃ A, StoOk c.K c.cm H0 G S H σ r A
section
variable {c : Cf} {S0 H0 S H S' H' : Hp} {G : List Ow} {σ : St} {r : Rho}
theorem SlotOk.o_of {k : Ow} {v : V} {d : D} (h : SlotOk c H0 S H k v d) (q : isO k) : ∃ p ho, v = .ref p ∧ H p = some ho ∧ S p = none ∧ H0 p = none ∧ RpO c.K c.cm S ho d := by
  cases k with
  | o => exact h
  | i a => exact h.2
  | _ => cases q
theorem SlotOk.mono {k : Ow} {v : V} {d : D} (h : SlotOk c H0 S H k v d) (f : Fwd S H S' H') : SlotOk c H0 S' H' k v d := by
  cases k with
  | v => exact Rp.mono f.s h
  | o =>
    obtain ⟨p, ho, h1, h2, h3, h4, h5⟩ := h
    refine ⟨p, ho, h1, f.h p _ h2, ?_, h4, h5.mono f.s⟩
    cases e : S' p with
    | none => rfl
    | some u => obtain ⟨ys, z⟩ := (f.new p u e h3).not h2; subst z; cases h5
  | i a =>
    obtain ⟨h0, p, ho, h1, h2, h3, h4, h5⟩ := h
    refine ⟨h0, p, ho, h1, f.h p _ h2, ?_, h4, h5.mono f.s⟩
    cases e : S' p with
    | none => rfl
    | some u => obtain ⟨ys, z⟩ := (f.new p u e h3).not h2; subst z; cases h5
  | b => exact RpB.mono h f.s Ex.refl
  | s P => exact h
  | w => exact h
  | x a C dd =>
    obtain ⟨h1, n, ns, ds, fs, h2, h3, h4, h5, h6⟩ := h
    exact ⟨h1, n, ns, ds, fs, h2, h3, f.s _ _ h4, h5, h6.mono f.s⟩
theorem EnvOk.go (e : EnvOk c S0 H0 G S H σ r) (f : Fwd S H S' H') : EnvOk c S0 H0 G S' H' σ r :=
  ⟨e.fwd.trans f, e.len, fun i d h => let ⟨v, h1, h2⟩ := e.slot i d h; ⟨v, h1, h2.mono f⟩, e.sep, let ⟨A, h⟩ := e.sto; ⟨A, h.go f⟩⟩
theorem EnvOk.ex (e : EnvOk c S0 H0 G S H σ r) : Ex S H := e.fwd.sub
theorem kd_set_self (G : List Ow) (i : Nat) : kd (G.set i .v) i = .v := by
  show (G.set i .v).getD i .v = .v
  rw [List.getD_eq_getElem?_getD, List.getElem?_set]
  split
  · split <;> rfl
  · rename_i h; exact absurd rfl h
theorem kd_set_ne {G : List Ow} {i j : Nat} {k : Ow} (h : i ≠ j) : kd (G.set i k) j = kd G j := by
  show (G.set i k).getD j .v = G.getD j .v
  rw [List.getD_eq_getElem?_getD, List.getD_eq_getElem?_getD, List.getElem?_set_ne h]
theorem kd_set_o {G : List Ow} {i : Nat} {k : Ow} (h : i < G.length) : kd (G.set i k) i = k := by
  show (G.set i k).getD i .v = k
  rw [List.getD_eq_getElem?_getD, List.getElem?_set_self h]; rfl
theorem set_some {α : Type} {l : List (Option α)} {i j : Nat} {a : Option α} {b : α} (h : (l.set i a)[j]? = some (some b)) : (i = j ∧ a = some b ∧ i < l.length) ∨ (i ≠ j ∧ l[j]? = some (some b)) := by
  by_cases e : i = j
  · subst e
    rw [List.getElem?_set] at h
    rw [if_pos rfl] at h
    split at h
    · rename_i hl; exact .inl ⟨rfl, Option.some.inj h, hl⟩
    · cases h
  · rw [List.getElem?_set_ne e] at h
    exact .inr ⟨e, h⟩
/-- a slot gets a value -/
theorem EnvOk.setV (e : EnvOk c S0 H0 G S H σ r) {v : V} {d : D} (i : Nat) (h : Rp c.K c.cm S v d) : EnvOk c S0 H0 (G.set i .v) S H (σ.set i (some v)) (r.set i (some d)) := by
  refine ⟨e.fwd, by simp [e.len], fun j b hb => ?_, fun j k b b' p hj hk kj kk sj sk => ?_, let ⟨A, hA⟩ := e.sto; ⟨A, hA.sub (fun a ha => (hA.out a ha).1) (fun _ _ => rfl) Ex.refl (fun j b q hj kj sj => ?_) fun j b kj hj => ?_⟩⟩
  · rcases set_some hb with ⟨rfl, ea, hl⟩ | ⟨ne, hb⟩
    · cases ea
      exact ⟨v, by rw [List.getElem?_set_self (by rw [e.len]; exact hl)], by rw [kd_set_self]; exact h⟩
    · obtain ⟨u, h1, h2⟩ := e.slot j b hb
      exact ⟨u, by rw [List.getElem?_set_ne ne]; exact h1, by rw [kd_set_ne ne]; exact h2⟩
  · have nj : i ≠ j := fun z => by subst z; rw [kd_set_self] at kj; cases kj
    have nk : i ≠ k := fun z => by subst z; rw [kd_set_self] at kk; cases kk
    rw [List.getElem?_set_ne nj] at hj sj
    rw [List.getElem?_set_ne nk] at hk sk
    rw [kd_set_ne nj] at kj
    rw [kd_set_ne nk] at kk
    exact e.sep j k b b' p hj hk kj kk sj sk
  · have nj : i ≠ j := fun z => by subst z; rw [kd_set_self] at kj; cases kj
    rw [List.getElem?_set_ne nj] at hj sj
    rw [kd_set_ne nj] at kj
    exact hA.own j b q hj kj sj
  · have nj : i ≠ j := fun z => by subst z; rw [kd_set_self] at kj; rcases kj with ⟨_, kj⟩ | kj <;> cases kj
    rw [List.getElem?_set_ne nj] at hj
    rw [kd_set_ne nj, List.getElem?_set_ne nj]
    exact ⟨rfl, hj, rfl⟩
/-- a slot gets a new mutable object -/
theorem EnvOk.setO (e : EnvOk c S0 H0 G S H σ r) (f : Fwd S H S' H') {p : Addr} {ho : HO} {d : D} (i : Nat) (hi : i < G.length) (n : H p = none) (ns : S' p = none) (hp : H' p = some ho) (h : RpO c.K c.cm S' ho d) :
    EnvOk c S0 H0 (G.set i .o) S' H' (σ.set i (some (.ref p))) (r.set i (some d)) := by
  have e' := e.go f
  have fresh : ∀ j b, r[j]? = some (some b) → isO (kd G j) → σ[j]? ≠ some (some (.ref p)) := fun j b hb kj sj => by
    obtain ⟨u, h1, h2⟩ := e.slot j b hb
    obtain ⟨q, ho', z1, z2, _⟩ := h2.o_of kj
    rw [sj] at h1; cases h1; cases z1
    rw [n] at z2; cases z2
  refine ⟨e'.fwd, by simp [e.len], fun j b hb => ?_, fun j k b b' q hj hk kj kk sj sk => ?_, let ⟨A, hA⟩ := e.sto; ⟨A, (hA.go f).sub (fun a ha => ((hA.go f).out a ha).1) (fun _ _ => rfl) Ex.refl (fun j b q hj kj sj => ?_) fun j b kj hj => ?_⟩⟩
  · rcases set_some hb with ⟨rfl, ea, hl⟩ | ⟨ne, hb⟩
    · cases ea
      refine ⟨.ref p, by rw [List.getElem?_set_self (by rw [e.len]; exact hl)], ?_⟩
      rw [kd_set_o hi]
      exact ⟨p, ho, rfl, hp, ns, e.fwd.h.nn n, h⟩
    · obtain ⟨u, h1, h2⟩ := e'.slot j b hb
      exact ⟨u, by rw [List.getElem?_set_ne ne]; exact h1, by rw [kd_set_ne ne]; exact h2⟩
  · by_cases nj : i = j
    · by_cases nk : i = k
      · rw [← nj, nk]
      · subst nj
        exfalso
        rcases set_some sj with ⟨_, ea, _⟩ | ⟨ne, _⟩
        · cases ea
          rw [List.getElem?_set_ne nk] at hk sk
          rw [kd_set_ne nk] at kk
          exact fresh k _ hk kk sk
        · exact ne rfl
    · by_cases nk : i = k
      · subst nk
        exfalso
        rcases set_some sk with ⟨_, ea, _⟩ | ⟨ne, _⟩
        · cases ea
          rw [List.getElem?_set_ne nj] at hj sj
          rw [kd_set_ne nj] at kj
          exact fresh j _ hj kj sj
        · exact ne rfl
      · rw [List.getElem?_set_ne nj] at hj sj
        rw [List.getElem?_set_ne nk] at hk sk
        rw [kd_set_ne nj] at kj
        rw [kd_set_ne nk] at kk
        exact e.sep j k b b' q hj hk kj kk sj sk
  · rcases set_some sj with ⟨_, ea, _⟩ | ⟨nj, sj⟩
    · cases ea
      intro ha
      obtain ⟨_, _, xs, h3⟩ := hA.out p ha
      rw [n] at h3; cases h3
    · rw [List.getElem?_set_ne nj] at hj
      rw [kd_set_ne nj] at kj
      exact hA.own j b q hj kj sj
  · have nj : i ≠ j := fun z => by subst z; rw [kd_set_o hi] at kj; rcases kj with ⟨_, kj⟩ | kj <;> cases kj
    rw [List.getElem?_set_ne nj] at hj
    rw [kd_set_ne nj, List.getElem?_set_ne nj]
    exact ⟨rfl, hj, rfl⟩
/-- the own object in slot i: its place -/
theorem EnvOk.ownI (e : EnvOk c S0 H0 G S H σ r) {i : Nat} {d : D} (k : isO (kd G i)) (h : r[i]? = some (some d)) : ∃ p ho, σ[i]? = some (some (.ref p)) ∧ H p = some ho ∧ S p = none ∧ H0 p = none ∧ RpO c.K c.cm S ho d := by
  obtain ⟨v, h1, h2⟩ := e.slot i d h
  obtain ⟨p, ho, rfl, h3⟩ := h2.o_of k
  exact ⟨p, ho, h1, h3⟩
/-- the own object in slot i is changed -/
theorem EnvOk.mutI (e : EnvOk c S0 H0 G S H σ r) {i : Nat} {d d' : D} {p : Addr} {ho' : HO} (k : isO (kd G i)) (h : r[i]? = some (some d)) (hs : σ[i]? = some (some (.ref p))) (h' : RpO c.K c.cm S ho' d') :
    EnvOk c S0 H0 G S (upd H p ho') σ (r.set i (some d')) := by
  obtain ⟨q, ho, s1, s2, s3, s4, s5⟩ := e.ownI k h
  rw [hs] at s1; cases s1
  have hf : Fwd S0 H0 S (upd H p ho') := ⟨e.fwd.s, e.fwd.h.put s4, e.fwd.sub.put s3, e.fwd.new⟩
  refine ⟨hf, by simp [e.len], fun j b hb => ?_, fun j l b b' q hj hk kj kk sj sk => ?_, let ⟨A, hA⟩ := e.sto; ⟨A, hA.sub (fun a ha => (hA.out a ha).1) (fun a ha => upd_ne fun z => hA.own i d p h k hs (z ▸ ha)) Ex.refl (fun j b q hj kj sj => ?_) fun j b kj hj => ?_⟩⟩
  · rcases set_some hb with ⟨rfl, ea, hl⟩ | ⟨ne, hb⟩
    · cases ea
      refine ⟨.ref p, hs, ?_⟩
      cases kk : kd G i with
      | o => exact ⟨p, ho', rfl, upd_same, s3, s4, h'⟩
      | i a =>
        obtain ⟨u, h1, h2⟩ := e.slot i d h
        rw [kk] at h2
        rw [hs] at h1; cases h1
        exact ⟨h2.1, p, ho', rfl, upd_same, s3, s4, h'⟩
      | _ => rw [kk] at k; cases k
    · obtain ⟨u, h1, h2⟩ := e.slot j b hb
      refine ⟨u, h1, ?_⟩
      cases kj : kd G j with
      | v => rw [kj] at h2; exact h2
      | b => rw [kj] at h2; exact h2
      | s P => rw [kj] at h2; exact h2
      | w => rw [kj] at h2; exact h2
      | x a C dd => rw [kj] at h2; exact h2
      | o =>
        rw [kj] at h2
        obtain ⟨q, hq, z1, z2, z3, z4, z5⟩ := h2
        subst z1
        have : q ≠ p := fun z => by subst z; exact ne (e.sep i j d b q h hb k (by rw [kj]; trivial) hs h1)
        exact ⟨q, hq, rfl, by rw [upd_ne this]; exact z2, z3, z4, z5⟩
      | i a =>
        rw [kj] at h2
        obtain ⟨z0, q, hq, z1, z2, z3, z4, z5⟩ := h2
        subst z1
        have : q ≠ p := fun z => by subst z; exact ne (e.sep i j d b q h hb k (by rw [kj]; trivial) hs h1)
        exact ⟨z0, q, hq, rfl, by rw [upd_ne this]; exact z2, z3, z4, z5⟩
  · have un : ∀ m b, (r.set i (some d'))[m]? = some (some b) → ∃ b', r[m]? = some (some b') := fun m b hm => by
      rcases set_some hm with ⟨rfl, _, _⟩ | ⟨_, hm⟩
      · exact ⟨d, h⟩
      · exact ⟨b, hm⟩
    obtain ⟨b1, hj⟩ := un j b hj
    obtain ⟨b2, hk⟩ := un l b' hk
    exact e.sep j l b1 b2 q hj hk kj kk sj sk
  · rcases set_some hj with ⟨nj, _, _⟩ | ⟨_, hj⟩
    · subst nj
      exact hA.own i d q h kj sj
    · exact hA.own j b q hj kj sj
  · rcases set_some hj with ⟨nj, _, _⟩ | ⟨_, hj⟩
    · subst nj
      rcases kj with ⟨_, kj⟩ | kj <;> (rw [kj] at k; cases k)
    · exact ⟨rfl, hj, rfl⟩
theorem isO_o {k : Ow} (h : k = .o) : isO k := by rw [h]; trivial
theorem EnvOk.own (e : EnvOk c S0 H0 G S H σ r) {i : Nat} {d : D} (k : kd G i = .o) (h : r[i]? = some (some d)) : ∃ p ho, σ[i]? = some (some (.ref p)) ∧ H p = some ho ∧ S p = none ∧ H0 p = none ∧ RpO c.K c.cm S ho d := e.ownI (isO_o k) h
theorem EnvOk.mut (e : EnvOk c S0 H0 G S H σ r) {i : Nat} {d d' : D} {p : Addr} {ho' : HO} (k : kd G i = .o) (h : r[i]? = some (some d)) (hs : σ[i]? = some (some (.ref p))) (h' : RpO c.K c.cm S ho' d') :
    EnvOk c S0 H0 G S (upd H p ho') σ (r.set i (some d')) := e.mutI (isO_o k) h hs h'
theorem StoOk.un {A : List Addr} (hA : StoOk c.K c.cm H0 G S H σ r A) (i : Nat) (hk : kd G i = .o ∨ kd G i = .v) (hS : ∀ a ∈ A, S' a = none) (eS : Ex S S') : StoOk c.K c.cm H0 (G.set i .v) S' H σ r A :=
  hA.sub hS (fun _ _ => rfl) eS (fun j b q hj kj sj => by
    have nj : i ≠ j := fun z => by subst z; rw [kd_set_self] at kj; cases kj
    rw [kd_set_ne nj] at kj
    exact hA.own j b q hj kj sj) fun j b kj hj => by
    have nj : i ≠ j := fun z => by subst z; rw [kd_set_self] at kj; rcases kj with ⟨_, kj⟩ | kj <;> cases kj
    rw [kd_set_ne nj]
    exact ⟨rfl, hj, rfl⟩
theorem EnvOk.sto_un (e : EnvOk c S0 H0 G S H σ r) (i : Nat) (hk : kd G i = .o ∨ kd G i = .v) : ∃ A, StoOk c.K c.cm H0 (G.set i .v) S H σ r A :=
  let ⟨A, hA⟩ := e.sto
  ⟨A, hA.un i hk (fun a ha => (hA.out a ha).1) Ex.refl⟩
/-- the own object in slot i becomes a value, as ho2 -/
theorem EnvOk.pubG (e : EnvOk c S0 H0 G S H σ r) (i : Nat) (k : kd G i = .o) {d : D} (h : r[i]? = some (some d)) {p : Addr} {ho ho2 : HO} (s1 : σ[i]? = some (some (.ref p))) (s2 : H p = some ho) (s3 : S p = none) (s4 : H0 p = none) (hrp : Rp c.K c.cm (upd S p ho2) (.ref p) d) :
    EnvOk c S0 H0 (G.set i .v) (upd S p ho2) (upd H p ho2) σ r := by
  have hk : kd G i = .o ∨ kd G i = .v := .inl k
  have ex : Ex S (upd S p ho2) := Ex.new s3
  refine ⟨⟨e.fwd.s.trans ex, e.fwd.h.put s4, e.fwd.sub.both, fun a u ha m => ?_⟩, e.len, fun j b hb => ?_, fun j l b b' q hj hk kj kk sj sk => ?_, let ⟨A, hA⟩ := e.sto; ⟨A, ?_⟩⟩
  · by_cases hh : a = p
    · subst hh; exact .inl s4
    · rw [upd_ne hh] at ha; exact e.fwd.new a u ha m
  · by_cases ne : i = j
    · subst ne
      rw [h] at hb; cases hb
      refine ⟨.ref p, s1, ?_⟩
      rw [kd_set_self]
      exact hrp
    · obtain ⟨u, h1, h2⟩ := e.slot j b hb
      refine ⟨u, h1, ?_⟩
      rw [kd_set_ne ne]
      cases kj : kd G j with
      | v => rw [kj] at h2; exact Rp.mono ex h2
      | b => rw [kj] at h2; exact RpB.mono h2 ex Ex.refl
      | s P => rw [kj] at h2; exact h2
      | w => rw [kj] at h2; exact h2
      | x a C dd =>
        rw [kj] at h2
        obtain ⟨y1, n, ns, ds, fs, y2, y3, y4, y5, y6⟩ := h2
        exact ⟨y1, n, ns, ds, fs, y2, y3, ex _ _ y4, y5, y6.mono ex⟩
      | o =>
        rw [kj] at h2
        obtain ⟨q, hq, z1, z2, z3, z4, z5⟩ := h2
        subst z1
        have : q ≠ p := fun z => by subst z; exact ne (e.sep i j d b q h hb (isO_o k) (isO_o kj) s1 h1)
        exact ⟨q, hq, rfl, by rw [upd_ne this]; exact z2, by rw [upd_ne this]; exact z3, z4, z5.mono ex⟩
      | i a =>
        rw [kj] at h2
        obtain ⟨z0, q, hq, z1, z2, z3, z4, z5⟩ := h2
        subst z1
        have : q ≠ p := fun z => by subst z; exact ne (e.sep i j d b q h hb (isO_o k) (by rw [kj]; trivial) s1 h1)
        exact ⟨z0, q, hq, rfl, by rw [upd_ne this]; exact z2, by rw [upd_ne this]; exact z3, z4, z5.mono ex⟩
  · have nj : i ≠ j := fun z => by subst z; rw [kd_set_self] at kj; cases kj
    have nl : i ≠ l := fun z => by subst z; rw [kd_set_self] at kk; cases kk
    rw [kd_set_ne nj] at kj
    rw [kd_set_ne nl] at kk
    exact e.sep j l b b' q hj hk kj kk sj sk
  · have np : ∀ a ∈ A, a ≠ p := fun a ha z => hA.own i d p h (isO_o k) s1 (z ▸ ha)
    refine hA.sub (fun a ha => by rw [upd_ne (np a ha)]; exact (hA.out a ha).1) (fun a ha => upd_ne (np a ha)) ex (fun j b q hj kj sj => ?_) fun j b kj hj => ?_
    · have nj : i ≠ j := fun z => by subst z; rw [kd_set_self] at kj; cases kj
      rw [kd_set_ne nj] at kj
      exact hA.own j b q hj kj sj
    · have nj : i ≠ j := fun z => by subst z; rw [kd_set_self] at kj; rcases kj with ⟨_, kj⟩ | kj <;> cases kj
      rw [kd_set_ne nj]
      exact ⟨rfl, hj, rfl⟩
theorem upd_eq {H : Hp} {p : Addr} {o : HO} (h : H p = some o) : upd H p o = H := by
  funext a
  by_cases e : a = p
  · rw [e, upd_same, h]
  · rw [upd_ne e]
/-- an own dict becomes a value: it is locked -/
theorem EnvOk.pubD (e : EnvOk c S0 H0 G S H σ r) (i : Nat) (k : kd G i = .o) {d : D} (h : r[i]? = some (some d)) (hd : isDct d = true) : ∃ p u, H p = some u ∧ Mut (some u) ∧ ∀ w, ∃ S', EnvOk c S0 H0 (G.set i .v) S' (upd H p (.frz w u)) σ r := by
  obtain ⟨p, ho, s1, s2, s3, s4, s5⟩ := e.own k h
  exact ⟨p, ho, s2, s5.mut, fun w => ⟨_, e.pubG i k h s1 s2 s3 s4 ((s5.mono (Ex.new s3)).pubD hd upd_same).1⟩⟩
/-- the own object in slot i becomes a value -/
theorem EnvOk.pub (e : EnvOk c S0 H0 G S H σ r) (i : Nat) (hk : kd G i = .o ∨ kd G i = .v) (nd : ∀ d, r[i]? = some (some d) → isDct d = false) : ∃ S', EnvOk c S0 H0 (G.set i .v) S' H σ r := by
  by_cases k : kd G i = .o
  · cases h : r[i]? with
    | none =>
      refine ⟨S, e.fwd, e.len, fun j b hb => ?_, fun j l b b' q hj hk kj kk sj sk => ?_, e.sto_un i hk⟩
      · have ne : i ≠ j := fun z => by subst z; rw [h] at hb; cases hb
        obtain ⟨u, h1, h2⟩ := e.slot j b hb
        exact ⟨u, h1, by rw [kd_set_ne ne]; exact h2⟩
      · have nj : i ≠ j := fun z => by subst z; rw [h] at hj; cases hj
        have nl : i ≠ l := fun z => by subst z; rw [h] at hk; cases hk
        rw [kd_set_ne nj] at kj
        rw [kd_set_ne nl] at kk
        exact e.sep j l b b' q hj hk kj kk sj sk
    | some od =>
      cases od with
      | none =>
        refine ⟨S, e.fwd, e.len, fun j b hb => ?_, fun j l b b' q hj hk kj kk sj sk => ?_, e.sto_un i hk⟩
        · have ne : i ≠ j := fun z => by subst z; rw [h] at hb; cases hb
          obtain ⟨u, h1, h2⟩ := e.slot j b hb
          exact ⟨u, h1, by rw [kd_set_ne ne]; exact h2⟩
        · have nj : i ≠ j := fun z => by subst z; rw [h] at hj; cases hj
          have nl : i ≠ l := fun z => by subst z; rw [h] at hk; cases hk
          rw [kd_set_ne nj] at kj
          rw [kd_set_ne nl] at kk
          exact e.sep j l b b' q hj hk kj kk sj sk
      | some d =>
        obtain ⟨p, ho, s1, s2, s3, s4, s5⟩ := e.own k h
        have := e.pubG i k h s1 s2 s3 s4 (ho2 := ho) ((s5.mono (Ex.new s3)).pub (nd d h) upd_same)
        rw [upd_eq s2] at this
        exact ⟨_, this⟩
  · have k' : kd G i = .v := hk.resolve_left k
    have all : ∀ j, kd (G.set i .v) j = kd G j := fun j => by
      by_cases ne : i = j
      · subst ne; rw [kd_set_self, k']
      · exact kd_set_ne ne
    exact ⟨S, e.fwd, e.len, fun j b hb => by rw [all]; exact e.slot j b hb, fun j l b b' q hj hk kj kk sj sk => e.sep j l b b' q hj hk ((all j) ▸ kj) ((all l) ▸ kk) sj sk, e.sto_un i hk⟩
end
end Dx
end S_DxA
section S_DxB
set_option Elab.async false
set_option linter.all false
set_option maxRecDepth 100000
set_option maxHeartbeats 2000000
namespace Dx
open PySem L2
/-- what is wanted behind a result, from (S, H) on -/
def PostG (c : Cf) (σ : St) (S H : Hp) {α : Type} (r : Res α) (k : α → Hp → Hp → Prop) : Prop :=
  match r with
  | .ok a => ∀ S' H', Fwd S H S' H' → k a S' H'
  | .err n ns vs => ∀ C dd S' H' fs, c.cm n = some C → Fwd S H S' H' → S' dd = some (.xd fs) → ns = fs.map (·.1) → RpA c.K c.cm S' (fs.map (·.2)) vs → c.W (.ref C) (some dd) σ H'
  | .bad => False
section
variable {c : Cf} {σ : St} {S H S1 H1 : Hp} {α β : Type} {r : Res α} {k k' : α → Hp → Hp → Prop}
theorem PostG.mono (h : PostG c σ S H r k) (f : Fwd S H S1 H1) : PostG c σ S1 H1 r k := by
  cases r with
  | ok a => exact fun S' H' g => h S' H' (f.trans g)
  | err n ns vs => exact fun C dd S' H' fs h1 g h2 h3 h4 => h C dd S' H' fs h1 (f.trans g) h2 h3 h4
  | bad => exact h
theorem PostG.imp (h : PostG c σ S H r k) (hk : ∀ a S' H', Fwd S H S' H' → k a S' H' → k' a S' H') : PostG c σ S H r k' := by
  cases r with
  | ok a => exact fun S' H' g => hk a S' H' g (h S' H' g)
  | err n ns vs => exact h
  | bad => exact h
theorem PostG.unbind {g : α → Res β} {k : β → Hp → Hp → Prop} (h : PostG c σ S H (r.bind g) k) : PostG c σ S H r fun a S' H' => PostG c σ S' H' (g a) k := by
  cases r with
  | ok a => exact fun S' H' f => PostG.mono (show PostG c σ S H (g a) k from h) f
  | err n ns vs => exact h
  | bad => exact h
end
/-- x where p holds; nothing is reckoned for it -/
noncomputable def guard {α : Type} (p : Prop) (x : Res α) : Res α := @ite _ p (Classical.propDecidable p) x .bad
theorem guard_pos {α : Type} {p : Prop} {x : Res α} (h : p) : guard p x = x := by unfold guard; exact if_pos h
theorem PostG.gd {c : Cf} {σ : St} {S H : Hp} {α : Type} {p : Prop} {x : Res α} {k : α → Hp → Hp → Prop} (h : PostG c σ S H (guard p x) k) : p ∧ PostG c σ S H x k := by
  by_cases hp : p
  · rw [guard_pos hp] at h; exact ⟨hp, h⟩
  · unfold guard at h; rw [if_neg hp] at h; exact h.elim
/-- a mode: what the heap ahead, the heaps behind, the machine's result and the data have in common -/
abbrev Md (β α : Type) := Hp → Hp → Hp → β → α → Prop
class Anti {β α : Type} (R : Md β α) : Prop where
  anti : ∀ {H H2 S' H' : Hp} {b : β} {a : α}, Ex H H2 → R H2 S' H' b a → R H S' H' b a
def mV (c : Cf) : Md V D := fun _ S' _ v d => Rp c.K c.cm S' v d
def mB (c : Cf) : Md V D := fun _ S' H' v d => RpB c.K c.cm S' H' v d
def mO (c : Cf) : Md V D := fun H S' H' v d => ∃ p ho, v = .ref p ∧ H p = none ∧ S' p = none ∧ H' p = some ho ∧ RpO c.K c.cm S' ho d
def mA (c : Cf) : Md (List V) (List D) := fun _ S' _ vs ds => RpA c.K c.cm S' vs ds
def mE (α : Type) : Md α α := fun _ _ _ b a => b = a
instance {c : Cf} : Anti (mV c) := ⟨fun _ h => h⟩
instance {c : Cf} : Anti (mB c) := ⟨fun _ h => h⟩
instance {c : Cf} : Anti (mA c) := ⟨fun _ h => h⟩
instance {α : Type} : Anti (mE α) := ⟨fun _ h => h⟩
instance {c : Cf} : Anti (mO c) := ⟨fun e ⟨p, ho, h1, h2, h3⟩ => ⟨p, ho, h1, e.nn h2, h3⟩⟩
/-- the reading of a piece whose data is f -/
def rd (c : Cf) (G : List Ow) {α β : Type} (f : Rho → Res α) (R : Md β α) : St → Hp → (β → Hp → Prop) → Prop := fun σ H Q =>
  ∃ S0 H0 S r, EnvOk c S0 H0 G S H σ r ∧ PostG c σ S H (f r) fun a S' H' => ∀ b, R H S' H' b a → Q b H'
abbrev tV (c : Cf) (G : List Ow) (f : Rho → Res D) : TE := rd c G f (mV c)
abbrev tR (c : Cf) (G : List Ow) (f : Rho → Res D) : TE := rd c G f (mB c)
abbrev tO (c : Cf) (G : List Ow) (f : Rho → Res D) : TE := rd c G f (mO c)
abbrev tT (c : Cf) (G : List Ow) (f : Rho → Res Bool) : TT := rd c G f (mE Bool)
abbrev tAs (c : Cf) (G : List Ow) (f : Rho → Res (List D)) : TA := rd c G f (mA c)
theorem pe_imp {X : Cx} {e : Expr} {t t' : TE} (h : PE X e t) (k : ∀ σ H Q, t' σ H Q → t σ H Q) : PE X e t' := ⟨fun pins s σ H Q I q => h.run pins s σ H Q I (k σ H Q q)⟩
theorem pt_imp {X : Cx} {e : Expr} {t t' : TT} (h : PT X e t) (k : ∀ σ H Q, t' σ H Q → t σ H Q) : PT X e t' := ⟨fun pins s σ H Q I q => h.run pins s σ H Q I (k σ H Q q)⟩
theorem pa_imp {X : Cx} {es : List Expr} {t t' : TA} (h : PA X es t) (k : ∀ σ H Q, t' σ H Q → t σ H Q) : PA X es t' := ⟨fun p pins s σ H Q I q => h.run p pins s σ H Q I (k σ H Q q)⟩
theorem ps_imp {X : Cx} {st : Stmt} {t t' : TS} (h : PS X st t) (k : ∀ E σ H, t' E σ H → t E σ H) : PS X st t' := ⟨fun pins s σ H E I q => h.run pins s σ H E I (k E σ H q)⟩
theorem pss_imp {X : Cx} {st : List Stmt} {t t' : TS} (h : PSs X st t) (k : ∀ E σ H, t' E σ H → t E σ H) : PSs X st t' := ⟨fun pins s σ H E I q => h.run pins s σ H E I (k E σ H q)⟩
section
variable {c : Cf} {G : List Ow} {σ : St} {S0 H0 S H : Hp} {r : Rho} {α β γ : Type}
/-- one piece, then what follows -/
theorem rd_seq {f : Rho → Res α} {R : Md β α} (e : EnvOk c S0 H0 G S H σ r) {g : α → Res γ} {k : γ → Hp → Hp → Prop} (p : PostG c σ S H ((f r).bind g) k) {Q : β → Hp → Prop}
    (h : ∀ a b S' H', Fwd S H S' H' → EnvOk c S0 H0 G S' H' σ r → R H S' H' b a → PostG c σ S' H' (g a) k → Q b H') : rd c G f R σ H Q :=
  ⟨S0, H0, S, r, e, p.unbind.imp fun a S' H' fw hk b hb => h a b S' H' fw (e.go fw) hb hk⟩
theorem PostG.anti {R : Md β α} [Anti R] {H2 : Hp} {x : Res α} {Q : β → Hp → Prop} (e : Ex H H2) {S2 : Hp} (p : PostG c σ S2 H2 x fun a S' H' => ∀ b, R H S' H' b a → Q b H') :
    PostG c σ S2 H2 x fun a S' H' => ∀ b, R H2 S' H' b a → Q b H' := p.imp fun _ _ _ _ hk b hb => hk b (Anti.anti e hb)
/-- the wish behind a value that is there -/
theorem PostG.here {R : Md β α} {a : α} {b : β} {Q : β → Hp → Prop} (p : PostG c σ S H (.ok a) fun a S' H' => ∀ b, R H S' H' b a → Q b H') (e : Ex S H) (h : R H S H b a) : Q b H := p S H (Fwd.refl e) b h
theorem PostG.go {a : α} {k : α → Hp → Hp → Prop} (p : PostG c σ S H (.ok a) k) (e : Ex S H) : k a S H := p S H (Fwd.refl e)
/-- .. behind a new object that stays; that is kept own -/
theorem PostG.laid {d : D} {o : HO} {q : Addr} {Q : VK} (p : PostG c σ S H (.ok d) fun a S' H' => ∀ b, mV c H S' H' b a → Q b H') (e : Ex S H) (n : H q = none) (h : Rp c.K c.cm (upd S q o) (.ref q) d) : Q (.ref q) (upd H q o) :=
  p _ _ (Fwd.both e n) _ h
theorem PostG.kept {d : D} {o : HO} {q : Addr} {Q : VK} (p : PostG c σ S H (.ok d) fun a S' H' => ∀ b, mO c H S' H' b a → Q b H') (e : Ex S H) (n : H q = none) (h : RpO c.K c.cm S o d) : Q (.ref q) (upd H q o) :=
  p _ _ (Fwd.heap e n) _ ⟨q, o, rfl, n, e.nn n, upd_same, h⟩
end
/-- .. or so as soon as a told object is locked -/
def Lo (Q : Hp → Prop) (H : Hp) : Prop := Q H ∨ ∃ p u, H p = some u ∧ Mut (some u) ∧ ∀ w, Q (upd H p (.frz w u))
theorem Fwd.pubF {S H S' H' : Hp} {p : Addr} {o : HO} (f : Fwd S H S' H') (n : H p = none) (ns : S' p = none) : Fwd S H (upd S' p o) (upd H' p o) :=
  ⟨f.s.trans (Ex.new ns), f.h.put n, f.sub.both, fun a u ha m => by
    by_cases hh : a = p
    · subst hh; exact .inl n
    · rw [upd_ne hh] at ha; exact f.new a u ha m⟩
section
variable {X : Cx}
theorem pe_lock {e : Expr} {t t2 : TE} (h : PE X e t) (k : ∀ σ H Q, t2 σ H Q → t σ H fun v H' => Lo (Q v) H') : PE X e t2 := ⟨fun pins s σ H Q I q => thn (h.run pins s σ H _ I (k _ _ _ q)) fun u s' ⟨v, H', I', r, z⟩ => by
  rcases z with z | ⟨p, ho, h1, h2, z⟩
  · exact ⟨v, H', I', r, z⟩
  · obtain ⟨od, I2⟩ := I'.lock h1 h2
    exact ⟨v, _, I2, r, z od⟩⟩
theorem pss_lock {st : List Stmt} {t t2 : TS} (h : PSs X st t) (k : ∀ E σ H, t2 E σ H → Lo (fun H => t E σ H) H) : PSs X st t2 := ⟨fun pins s σ H E I q => by
  rcases k _ _ _ q with z | ⟨p, ho, h1, h2, z⟩
  · exact h.run pins s σ H E I z
  · obtain ⟨od, I2⟩ := I.lock h1 h2
    exact h.run pins s σ _ E I2 (z od)⟩
end
section
variable {X : Cx} {c : Cf} {G : List Ow} {f f1 f2 : Rho → Res D} {a b e : Expr} {pos : Pos}
theorem de_pub (h : PE X e (tO c G f)) : PE X e (tV c G f) := pe_lock h fun σ H Q ⟨S0, H0, S, r, ok, p⟩ => ⟨S0, H0, S, r, ok, by
  revert p
  cases f r with
  | ok d =>
    intro p S' H' fw b hb
    obtain ⟨q, ho, rfl, h1, h2, h3, h4⟩ := hb
    cases hd : isDct d with
    | false =>
      have fw' := fw.pub h1 h2 h3
      exact .inl (p _ H' fw' _ ((h4.mono (Ex.new h2)).pub hd upd_same))
    | true => exact .inr ⟨q, ho, h3, h4.mut, fun w => p _ _ (fw.pubF h1 h2) _ ((h4.mono (Ex.new h2)).pubD hd upd_same).1⟩
  | err n ns vs => exact id
  | bad => exact id⟩
theorem db_of (h : PE X e (tV c G f)) : PE X e (tR c G f) := pe_imp h fun σ H Q ⟨S0, H0, S, r, ok, p⟩ => ⟨S0, H0, S, r, ok, p.imp fun _ _ _ _ hk b hb => hk b (.inl hb)⟩
theorem db_own (h : PE X e (tO c G f)) : PE X e (tR c G f) := db_of (de_pub h)
def dVar (i : Nat) : Rho → Res D := fun r => match r[i]? with
  | some (some d) => .ok d
  | _ => .bad
def dC (d : D) : Rho → Res D := fun _ => .ok d
theorem of_dVar {σ : St} {S H : Hp} {i : Nat} {r : Rho} {k : D → Hp → Hp → Prop} (p : PostG c σ S H (dVar i r) k) : ∃ d, r[i]? = some (some d) ∧ PostG c σ S H (.ok d) k := by
  unfold dVar at p
  split at p
  · exact ⟨_, by assumption, p⟩
  · exact p.elim
theorem de_var (i : Nat) {x : Str} (h : PE X (.Name x pos) (tVar i)) (k : kd G i = .v) : PE X (.Name x pos) (tV c G (dVar i)) := pe_imp h fun σ H Q ⟨S0, H0, S, r, ok, p⟩ => by
  obtain ⟨d, hd, p⟩ := of_dVar p
  obtain ⟨v, h1, h2⟩ := ok.slot i d hd
  rw [k] at h2
  exact ⟨v, h1, p.here ok.ex h2⟩
theorem db_var (i : Nat) {x : Str} (h : PE X (.Name x pos) (tVar i)) (k : kd G i = .v ∨ isO (kd G i) ∨ kd G i = .b) : PE X (.Name x pos) (tR c G (dVar i)) := pe_imp h fun σ H Q ⟨S0, H0, S, r, ok, p⟩ => by
  obtain ⟨d, hd, p⟩ := of_dVar p
  obtain ⟨v, h1, h2⟩ := ok.slot i d hd
  refine ⟨v, h1, p.here ok.ex ?_⟩
  rcases k with k | k | k
  · rw [k] at h2; exact .inl h2
  · obtain ⟨q, ho, z1, z2, z3, z4, z5⟩ := h2.o_of k
    exact .inr ⟨q, ho, z1, z2, z5⟩
  · rw [k] at h2
    exact RpB.mono h2 Ex.refl ok.fwd.h
theorem de_c {v : V} {d : D} (h : PE X e (tC v)) (hd : ∀ S, Rp c.K c.cm S v d) : PE X e (tV c G (dC d)) := pe_imp h fun σ H Q ⟨S0, H0, S, r, ok, p⟩ => p.here ok.ex (hd S)
theorem de_int {i : Int} {j : Nat} : PE X (.Constant (.int i) j pos) (tV c G (dC (.int i))) := de_c pe_int fun _ => .int i
theorem de_bl {b : Bool} {j : Nat} : PE X (.Constant (.bool b) j pos) (tV c G (dC (.bl b))) := de_c pe_bl fun _ => .bl b
theorem de_non {j : Nat} : PE X (.Constant .none j pos) (tV c G (dC .non)) := de_c pe_non fun _ => .non
theorem de_str {x : Str} {j : Nat} : PE X (.Constant (.str x) j pos) (tV c G (dC (.str x))) := de_c pe_str fun _ => .str x
def dOp (g : D → D → Res D) (f1 f2 : Rho → Res D) : Rho → Res D := fun r => (f1 r).bind fun x => (f2 r).bind fun y => g x y
def OpS (c : Cf) (R : Md V D) (r2 : R2) (g : D → D → Res D) : Prop := ∀ (σ : St) (S H : Hp) (x y : V) (d e : D) (Q : VK), Ex S H → RpB c.K c.cm S H x d → RpB c.K c.cm S H y e →
  PostG c σ S H (g d e) (fun a S' H' => ∀ b, R H S' H' b a → Q b H') → r2 x y H Q
theorem op_rd {R : Md V D} [Anti R] {r2 : R2} {g : D → D → Res D} (hs : OpS c R r2 g) : ∀ σ H Q, rd c G (dOp g f1 f2) R σ H Q → tOp r2 (tR c G f1) (tR c G f2) σ H Q := fun σ H Q ⟨S0, H0, S, r, ok, p⟩ =>
  rd_seq ok p fun x v S1 H1 w1 o1 m1 p1 => rd_seq o1 p1 fun y u S2 H2 w2 o2 m2 p2 => hs σ S2 H2 v u x y Q o2.ex (RpB.mono m1 w2.s w2.h) m2 (p2.anti (w1.h.trans w2.h))
theorem de_op {R : Md V D} [Anti R] {op : Operator} {r2 : R2} {g : D → D → Res D} (ho : OpR X (binaryOp op) r2) (hs : OpS c R r2 g) (ha : PE X a (tR c G f1)) (hb : PE X b (tR c G f2)) : PE X (.BinOp a op b pos) (rd c G (dOp g f1 f2) R) :=
  pe_imp (pe_op ho ha hb) (op_rd hs)
theorem de_cmp {R : Md V D} [Anti R] {op : CmpOp} {r2 : R2} {g : D → D → Res D} (ho : OpR X (compareOp op) r2) (hs : OpS c R r2 g) (ha : PE X a (tR c G f1)) (hb : PE X b (tR c G f2)) (hm : behindInMarks op b = false) :
    PE X (.Compare a [op] [b] pos) (rd c G (dOp g f1 f2) R) := pe_imp (pe_cmpR ho ha hb hm) (op_rd hs)
/-- a truth value as a test -/
def asB : D → Res Bool
  | .bl b => .ok b
  | _ => .bad
def dT (f : Rho → Res D) : Rho → Res Bool := fun r => (f r).bind asB
theorem of_asB {σ : St} {S H : Hp} {d : D} {k : Bool → Hp → Hp → Prop} (p : PostG c σ S H (asB d) k) : ∃ b, d = .bl b ∧ PostG c σ S H (.ok b) k := by
  cases d with
  | bl b => exact ⟨b, rfl, p⟩
  | _ => exact p.elim
theorem dt_cmp {op : CmpOp} {r2 : R2} {g : D → D → Res D} (ho : OpR X (compareOp op) r2) (hs : OpS c (mV c) r2 g) (ha : PE X a (tR c G f1)) (hb : PE X b (tR c G f2)) (hm : behindInMarks op b = false) :
    PT X (.Compare a [op] [b] pos) (tT c G (dT (dOp g f1 f2))) := pt_imp (pt_cmpR ho ha hb hm) fun σ H Q ⟨S0, H0, S, r, ok, p⟩ => by
  refine op_rd (G := G) (f1 := f1) (f2 := f2) hs σ H _ (rd_seq ok p fun d v S1 H1 w1 o1 m1 p1 => ?_)
  obtain ⟨b, rfl, p1⟩ := of_asB p1
  cases m1
  exact ⟨b, rfl, p1.go o1.ex _ rfl⟩
/-- an expression whose value is True or False, as a test -/
theorem dt_val (h : PE X e (tV c G f)) (he : ∀ whole, isTrue e X.env whole = (do let v ← whole; standAt e.pos; holding [v] (truthy v)) := by intro _; rfl) : PT X e (tT c G (dT f)) :=
  pt_imp (pt_val h he) fun σ H Q ⟨S0, H0, S, r, ok, p⟩ => rd_seq ok p fun d v S1 H1 w1 o1 m1 p1 => by
    obtain ⟨b, rfl, p1⟩ := of_asB p1
    cases m1
    exact ⟨b, rfl, p1.go o1.ex _ rfl⟩
variable {t1 t2 : Rho → Res Bool} {rest : List Expr}
def dAnd (t u : Rho → Res Bool) : Rho → Res Bool := fun r => (t r).bind fun b => if b = true then u r else .ok false
def dOr (t u : Rho → Res Bool) : Rho → Res Bool := fun r => (t r).bind fun b => if b = true then .ok true else u r
def dNot (t : Rho → Res Bool) : Rho → Res Bool := fun r => (t r).bind fun b => .ok (!b)
def dIf {α : Type} (t : Rho → Res Bool) (f g : Rho → Res α) : Rho → Res α := fun r => (t r).bind fun b => if b = true then f r else g r
theorem pw_imp {t t' : TT} (h : PW X e t) (k : ∀ σ H Q, t' σ H Q → t σ H Q) : PW X e t' := ⟨fun w pins s σ H Q I q => h.run w pins s σ H Q I (k σ H Q q)⟩
theorem dw_and1 (ha : PT X a (tT c G t1)) : PW X (.BoolOp .And [a] pos) (tT c G t1) := pw_and1 ha
theorem dw_or1 (ha : PT X a (tT c G t1)) : PW X (.BoolOp .Or [a] pos) (tT c G t1) := pw_or1 ha
theorem dw_and (ha : PT X a (tT c G t1)) (hb : PW X (.BoolOp .And (b :: rest) pos) (tT c G t2)) : PW X (.BoolOp .And (a :: b :: rest) pos) (tT c G (dAnd t1 t2)) := pw_imp (pw_and ha hb) fun σ H Q ⟨S0, H0, S, r, ok, p⟩ =>
  rd_seq ok p fun x v S1 H1 w1 o1 m1 p1 => by
    rw [show v = x from m1]
    cases x with
    | true => exact ⟨S0, H0, S1, r, o1, p1⟩
    | false => exact p1.go o1.ex _ rfl
theorem dw_or (ha : PT X a (tT c G t1)) (hb : PW X (.BoolOp .Or (b :: rest) pos) (tT c G t2)) : PW X (.BoolOp .Or (a :: b :: rest) pos) (tT c G (dOr t1 t2)) := pw_imp (pw_or ha hb) fun σ H Q ⟨S0, H0, S, r, ok, p⟩ =>
  rd_seq ok p fun x v S1 H1 w1 o1 m1 p1 => by
    rw [show v = x from m1]
    cases x with
    | true => exact p1.go o1.ex _ rfl
    | false => exact ⟨S0, H0, S1, r, o1, p1⟩
theorem dt_not (ha : PT X a (tT c G t1)) : PT X (.UnaryOp .Not a pos) (tT c G (dNot t1)) := pt_imp (pt_not ha) fun σ H Q ⟨S0, H0, S, r, ok, p⟩ =>
  rd_seq ok p fun x v S1 H1 w1 o1 m1 p1 => by
    rw [show v = x from m1]
    exact p1.go o1.ex _ rfl
/-- and, or, not as values: all True or False -/
def dAndV (f g : Rho → Res D) : Rho → Res D := fun r => (f r).bind fun x => (asB x).bind fun b => if b = true then g r else .ok (.bl false)
def dOrV (f g : Rho → Res D) : Rho → Res D := fun r => (f r).bind fun x => (asB x).bind fun b => if b = true then .ok (.bl true) else g r
def dNotV (f : Rho → Res D) : Rho → Res D := fun r => (f r).bind fun x => (asB x).bind fun b => .ok (.bl (!b))
end
end Dx
end S_DxB
section S_DxC
set_option Elab.async false
set_option linter.all false
set_option maxRecDepth 100000
set_option maxHeartbeats 2000000
namespace Dx
open PySem L2
mutual
def toPy : D → Option PyData
  | .non => some .none
  | .bl b => some (.bool b)
  | .int i => some (.int i)
  | .str s => some (.str s)
  | .lst ds => (toPyL ds).map .list
  | .fz ds => (toPyL ds).map .list
  | .tup ds => (toPyL ds).map .tuple
  | .kt ds => (toPyL ds).map .tuple
  | .dk _ _ => none
  | .dt _ _ => none
  | .obj _ _ _ => none
  | .own _ => none
  | .st _ _ => none
def toPyL : List D → Option (List PyData)
  | [] => some []
  | d :: ds => match toPy d, toPyL ds with
    | some p, some ps => some (p :: ps)
    | _, _ => none
end
section
variable {K : PySem.W.Frag} {cm : CM} {S H : Hp}
mutual
theorem Rp.dp (e : Ex S H) : ∀ {v : V} {d : D} {p : PyData}, Rp K cm S v d → toPy d = some p → Dp K H v p
  | _, .non, _, h, q => by cases h; cases q; exact .non
  | _, .bl _, _, h, q => by cases h; cases q; exact .bl _
  | _, .int _, _, h, q => by cases h; cases q; exact .int _
  | _, .str _, _, h, q => by cases h; cases q; exact .str _
  | _, .lst ds, _, h, q => by
    cases h with | lst a r =>
    rw [toPy] at q
    obtain ⟨ps, h1, rfl⟩ := Option.map_eq_some_iff.mp q
    exact .lst (.inl (.inl (e _ _ a))) (RpA.dp e r h1)
  | _, .fz ds, _, h, q => by
    cases h with | fz a r =>
    rw [toPy] at q
    obtain ⟨ps, h1, rfl⟩ := Option.map_eq_some_iff.mp q
    exact .lst (e.l a) (RpA.dp e r h1)
  | _, .tup ds, _, h, q => by
    cases h with | tup a r =>
    rw [toPy] at q
    obtain ⟨ps, h1, rfl⟩ := Option.map_eq_some_iff.mp q
    exact .tup (.inl (.inl (e _ _ a))) (RpA.dp e r h1)
  | _, .kt ds, _, h, q => by
    cases h with | kt a r =>
    rw [toPy] at q
    obtain ⟨ps, h1, rfl⟩ := Option.map_eq_some_iff.mp q
    exact .tup (e.t a) (RpA.dp e r h1)
  | _, .dk _ _, _, h, q => by cases q
  | _, .dt _ _, _, h, q => by cases q
  | _, .obj _ _ _, _, h, q => by cases q
theorem RpA.dp (e : Ex S H) : ∀ {vs : List V} {ds : List D} {ps : List PyData}, RpA K cm S vs ds → toPyL ds = some ps → DpAll K H vs ps
  | _, [], _, h, q => by cases h; cases q; exact .nil
  | _, d :: ds, _, h, q => by
    cases h with | cons a r =>
    rw [toPyL] at q
    cases h1 : toPy d with
    | none => rw [h1] at q; cases q
    | some p =>
      cases h2 : toPyL ds with
      | none => rw [h1, h2] at q; cases q
      | some ps =>
        rw [h1, h2] at q
        cases q
        exact .cons (Rp.dp e a h1) (RpA.dp e r h2)
end
theorem RpB.dp {v : V} {d : D} {p : PyData} (e : Ex S H) (h : RpB K cm S H v d) (q : toPy d = some p) : Dp K H v p := by
  rcases h with h | ⟨a, ho, rfl, h2, h3⟩
  · exact h.dp e q
  · cases h3 with
    | lst r =>
      rw [toPy] at q
      obtain ⟨ps, h1, rfl⟩ := Option.map_eq_some_iff.mp q
      exact .lst (.inl (.inl h2)) (r.dp e h1)
    | dk _ _ => cases q
    | dt _ _ => cases q
    | obj _ _ _ => cases q
end
noncomputable def addD : D → D → Res D
  | .int i, .int j => .ok (.int (i + j))
  | .str a, .str b => guard (a.length + b.length ≤ sizeLine) (.ok (.str (a ++ b)))
  | .tup a, .tup b => guard (a.length + b.length ≤ sizeLine) (.ok (.tup (a ++ b)))
  | .lst a, .lst b => guard (a.length + b.length ≤ sizeLine) (.ok (.lst (a ++ b)))
  | _, _ => .bad
def rAddX (K : PySem.W.Frag) : R2 := fun x y H Q => (rI0 (fun i j => .int (i + j))) x y H Q ∨ (∃ i j, x = .str i ∧ y = .str j ∧ i.length + j.length ≤ sizeLine ∧ Q (.str (i ++ j)) H) ∨ rCatA K x y H Q ∨ rCat x y H Q
section
variable {X : Cx} {c : Cf}
theorem or_add : OpR X (binaryOp .Add) (rAddX X.K) := op_add.or (op_add_str.or (op_catA.or op_cat))
theorem PostG.ite {σ : St} {S H : Hp} {α : Type} {p : Prop} [Decidable p] {x : Res α} {k : α → Hp → Hp → Prop} (h : PostG c σ S H (if p then x else .bad) k) : p ∧ PostG c σ S H x k := by
  by_cases hp : p
  · rw [if_pos hp] at h; exact ⟨hp, h⟩
  · rw [if_neg hp] at h; exact h.elim
theorem os_add : OpS c (mV c) (rAddX c.K) addD := by
  intro σ S H x y d e Q ex hx hy p
  unfold addD at p
  split at p
  · cases hx.int; cases hy.int
    exact .inl ⟨_, _, rfl, rfl, p.here ex (.int _)⟩
  · cases hx.str; cases hy.str
    obtain ⟨hl, p⟩ := p.gd
    exact .inr (.inl ⟨_, _, rfl, rfl, hl, p.here ex (.str _)⟩)
  · obtain ⟨q1, xs, rfl, a1, r1, s1⟩ := hx.tup ex
    obtain ⟨q2, ys, rfl, a2, r2, s2⟩ := hy.tup ex
    obtain ⟨hl, p⟩ := p.gd
    refine .inr (.inr (.inl ⟨_, _, xs, ys, rfl, rfl, a1, a2, by rw [r1.length, r2.length]; exact hl, fun h => ?_, fun _ h => ?_, fun _ _ q hq => ?_⟩))
    · subst h; cases r1; exact p.here ex (.tup s2 r2)
    · subst h; cases r2; rw [List.append_nil] at p; exact p.here ex (.tup s1 r1)
    · exact p.laid ex hq (.tup upd_same ((r1.app r2).mono (Ex.new (ex.nn hq))))
  · obtain ⟨q1, xs, rfl, a1, r1⟩ := hx.list ex
    obtain ⟨q2, ys, rfl, a2, r2⟩ := hy.list ex
    obtain ⟨hl, p⟩ := p.gd
    refine .inr (.inr (.inr ⟨_, _, xs, ys, rfl, rfl, a1, a2, by rw [r1.length, r2.length]; exact hl, fun q hq => ?_⟩))
    exact p.laid ex hq (.lst upd_same ((r1.app r2).mono (Ex.new (ex.nn hq))))
  · exact p.elim
/-- list + list, the new list one's own -/
noncomputable def addL : D → D → Res D
  | .lst a, .lst b => guard (a.length + b.length ≤ sizeLine) (.ok (.lst (a ++ b)))
  | _, _ => .bad
def subD : D → D → Res D
  | .int i, .int j => .ok (.int (i - j))
  | _, _ => .bad
theorem os_sub : OpS c (mV c) (rI0 fun i j => .int (i - j)) subD := by
  intro σ S H x y d e Q ex hx hy p
  unfold subD at p
  split at p
  · cases hx.int; cases hy.int
    exact ⟨_, _, rfl, rfl, p.here ex (.int _)⟩
  · exact p.elim
def smallI (i : Int) : Prop := -(2 ^ 64) < i ∧ i < 2 ^ 64
theorem RpA.rep {K : PySem.W.Frag} {cm : CM} {S : Hp} {vs : List V} {ds : List D} (h : RpA K cm S vs ds) : ∀ n : Nat, RpA K cm S (List.replicate n vs).flatten (List.replicate n ds).flatten
  | 0 => .nil
  | n + 1 => by rw [List.replicate_succ, List.replicate_succ, List.flatten_cons, List.flatten_cons]; exact h.app (RpA.rep h n)
noncomputable def mulD : D → D → Res D
  | .int i, .int j => guard (smallI i ∨ smallI j) (.ok (.int (i * j)))
  | .lst a, .int k => guard (0 ≤ k ∧ k < 2 ^ 60 ∧ a.length * k.toNat ≤ sizeLine) (.ok (.lst (List.replicate k.toNat a).flatten))
  | _, _ => .bad
def rMulX : R2 := fun x y H Q => (rI CMul (fun i j => .int (i * j))) x y H Q ∨ rRep x y H Q
theorem or_mul : OpR X (binaryOp .Mult) rMulX := op_mul.or op_rep
theorem os_mul : OpS c (mV c) rMulX mulD := by
  intro σ S H x y d e Q ex hx hy p
  unfold mulD at p
  split at p
  · cases hx.int; cases hy.int
    obtain ⟨hl, p⟩ := p.gd
    exact .inl ⟨_, _, rfl, rfl, hl, p.here ex (.int _)⟩
  · obtain ⟨q1, xs, rfl, a1, r1⟩ := hx.list ex
    cases hy.int
    obtain ⟨⟨h0, h1, h2⟩, p⟩ := p.gd
    refine .inr ⟨_, _, xs, rfl, rfl, a1, by omega, by omega, by rw [r1.length]; exact h2, fun q hq => ?_⟩
    exact p.laid ex hq (.lst upd_same ((r1.rep _).mono (Ex.new (ex.nn hq))))
  · exact p.elim
noncomputable def fdivD : D → D → Res D
  | .int i, .int j => if 0 < j then guard (j < 4611686018427387904) (.ok (.int (i / j))) else guard (j ≠ 0 ∧ j.natAbs < 1073741824) (.ok (.int (i.fdiv j)))
  | _, _ => .bad
def rFdivX : R2 := fun x y H Q => (rI CDivW (fun i j => .int (i / j))) x y H Q ∨ (rI CDivN (fun i j => .int (i.fdiv j))) x y H Q
theorem or_fdiv : OpR X (binaryOp .FloorDiv) rFdivX := op_fdivW.or op_fdivN
theorem os_fdiv : OpS c (mV c) rFdivX fdivD := by
  intro σ S H x y d e Q ex hx hy p
  unfold fdivD at p
  split at p
  · cases hx.int; cases hy.int
    split at p
    · rename_i h
      obtain ⟨h2, p⟩ := p.gd
      exact .inl ⟨_, _, rfl, rfl, wide_div (b := 62) h (by omega) (by decide) (by decide), p.here ex (.int _)⟩
    · obtain ⟨h, p⟩ := p.gd
      exact .inr ⟨_, _, rfl, rfl, h, p.here ex (.int _)⟩
  · exact p.elim
noncomputable def modD : D → D → Res D
  | .int i, .int j => guard (0 < j) (.ok (.int (i % j)))
  | _, _ => .bad
theorem os_mod : OpS c (mV c) (rI (fun _ j => 0 < j) fun i j => .int (i % j)) modD := by
  intro σ S H x y d e Q ex hx hy p
  unfold modD at p
  split at p
  · cases hx.int; cases hy.int
    obtain ⟨h, p⟩ := p.gd
    exact ⟨_, _, rfl, rfl, h, p.here ex (.int _)⟩
  · exact p.elim
def intsD (g : Int → Int → Int) : D → D → Res D
  | .int i, .int j => .ok (.int (g i j))
  | _, _ => .bad
def eqFlat : D → D → Option Bool
  | .int i, .int j => some (decide (i = j))
  | .str a, .str b => some (decide (a = b))
  | .bl a, .bl b => some (decide (a = b))
  | .non, .non => some true
  | .non, .int _ => some false
  | .non, .bl _ => some false
  | .non, .str _ => some false
  | .int _, .non => some false
  | .bl _, .non => some false
  | .str _, .non => some false
  | .int _, .str _ => some false
  | .str _, .int _ => some false
  | .bl _, .str _ => some false
  | .str _, .bl _ => some false
  | _, _ => none
def eqDeep (d e : D) : Res Bool := match toPy d, toPy e with
  | some p, some q => if SeqAt.shaped p = true ∧ SeqAt.shaped q = true then .ok (PyData.eqv p q) else .bad
  | _, _ => .bad
def eqB (d e : D) : Res Bool := match eqFlat d e with
  | some b => .ok b
  | none => eqDeep d e
def eqD (d e : D) : Res D := (eqB d e).bind fun b => .ok (.bl b)
def neD (d e : D) : Res D := (eqB d e).bind fun b => .ok (.bl (!b))
theorem of_eqDeep {σ : St} {S H : Hp} {x y : V} {d e : D} {g : Bool → Res D} {k : D → Hp → Hp → Prop} (ex : Ex S H) (hx : RpB c.K c.cm S H x d) (hy : RpB c.K c.cm S H y e) (p : PostG c σ S H ((eqDeep d e).bind g) k) :
    ∃ u v, Dp c.K H x u ∧ Dp c.K H y v ∧ SeqAt.shaped u = true ∧ SeqAt.shaped v = true ∧ PostG c σ S H (g (PyData.eqv u v)) k := by
  unfold eqDeep at p
  split at p
  · rename_i u v h1 h2
    by_cases hs : SeqAt.shaped u = true ∧ SeqAt.shaped v = true
    · rw [if_pos hs] at p
      exact ⟨u, v, hx.dp ex h1, hy.dp ex h2, hs.1, hs.2, p⟩
    · rw [if_neg hs] at p
      exact p.elim
  · exact p.elim
theorem of_eqFlat {S H : Hp} {x y : V} {d e : D} {b : Bool} (hx : RpB c.K c.cm S H x d) (hy : RpB c.K c.cm S H y e) (h : eqFlat d e = some b) : scal x y = true ∧ decide (x = y) = b := by
  unfold eqFlat at h
  split at h
  · cases hx.int; cases hy.int; cases h; exact ⟨rfl, by simp⟩
  · cases hx.str; cases hy.str; cases h; exact ⟨rfl, by simp⟩
  · cases hx.bl; cases hy.bl; cases h; exact ⟨rfl, by simp⟩
  · cases hx.non; cases hy.non; cases h; exact ⟨rfl, rfl⟩
  · cases hx.non; cases hy.int; cases h; exact ⟨rfl, rfl⟩
  · cases hx.non; cases hy.bl; cases h; exact ⟨rfl, rfl⟩
  · cases hx.non; cases hy.str; cases h; exact ⟨rfl, rfl⟩
  · cases hx.int; cases hy.non; cases h; exact ⟨rfl, rfl⟩
  · cases hx.bl; cases hy.non; cases h; exact ⟨rfl, rfl⟩
  · cases hx.str; cases hy.non; cases h; exact ⟨rfl, rfl⟩
  · cases hx.int; cases hy.str; cases h; exact ⟨rfl, rfl⟩
  · cases hx.str; cases hy.int; cases h; exact ⟨rfl, rfl⟩
  · cases hx.bl; cases hy.str; cases h; exact ⟨rfl, rfl⟩
  · cases hx.str; cases hy.bl; cases h; exact ⟨rfl, rfl⟩
  · cases h
def rEqX (K : PySem.W.Frag) : R2 := fun x y H Q => rEq x y H Q ∨ rEqD K x y H Q
def rNeX (K : PySem.W.Frag) : R2 := fun x y H Q => rNe x y H Q ∨ rNeD K x y H Q
theorem or_eq (hu : X.A.units + 64 < cLine) : OpR X (compareOp .Eq) (rEqX X.K) := op_eq.or (op_eqD hu)
theorem or_ne (hu : X.A.units + 64 < cLine) : OpR X (compareOp .NotEq) (rNeX X.K) := op_ne.or (op_neD hu)
theorem os_eq : OpS c (mV c) (rEqX c.K) eqD := by
  intro σ S H x y d e Q ex hx hy p
  unfold eqD eqB at p
  split at p
  · rename_i b hb
    obtain ⟨h1, h2⟩ := of_eqFlat hx hy hb
    refine .inl ⟨h1, ?_⟩
    rw [h2]; exact p.here ex (.bl _)
  · obtain ⟨u, v, h1, h2, h3, h4, p⟩ := of_eqDeep ex hx hy p
    exact .inr ⟨u, v, h1, h2, h3, h4, p.here ex (.bl _)⟩
theorem os_ne : OpS c (mV c) (rNeX c.K) neD := by
  intro σ S H x y d e Q ex hx hy p
  unfold neD eqB at p
  split at p
  · rename_i b hb
    obtain ⟨h1, h2⟩ := of_eqFlat hx hy hb
    refine .inl ⟨h1, ?_⟩
    rw [h2]; exact p.here ex (.bl _)
  · obtain ⟨u, v, h1, h2, h3, h4, p⟩ := of_eqDeep ex hx hy p
    exact .inr ⟨u, v, h1, h2, h3, h4, p.here ex (.bl _)⟩
/-- by ints, by texts -/
def ordD (g : Int → Int → Bool) (h : Str → Str → Bool) : D → D → Res D
  | .int i, .int j => .ok (.bl (g i j))
  | .str a, .str b => .ok (.bl (h a b))
  | _, _ => .bad
def rOrd (g : Int → Int → Bool) (h : Str → Str → Bool) : R2 := fun x y H Q => (rI0 fun i j => .bl (g i j)) x y H Q ∨ ∃ i j, x = .str i ∧ y = .str j ∧ Q (.bl (h i j)) H
theorem os_ord {g : Int → Int → Bool} {h : Str → Str → Bool} : OpS c (mV c) (rOrd g h) (ordD g h) := by
  intro σ S H x y d e Q ex hx hy p
  unfold ordD at p
  split at p
  · cases hx.int; cases hy.int
    exact .inl ⟨_, _, rfl, rfl, p.here ex (.bl _)⟩
  · cases hx.str; cases hy.str
    exact .inr ⟨_, _, rfl, rfl, p.here ex (.bl _)⟩
  · exact p.elim
abbrev ltD : D → D → Res D := ordD (fun i j => decide (i < j)) fun i j => decide (i.cps.toList < j.cps.toList)
abbrev leD : D → D → Res D := ordD (fun i j => decide (i ≤ j)) fun i j => !decide (j.cps.toList < i.cps.toList)
abbrev gtD : D → D → Res D := ordD (fun i j => decide (j < i)) fun i j => decide (j.cps.toList < i.cps.toList)
abbrev geD : D → D → Res D := ordD (fun i j => decide (j ≤ i)) fun i j => !decide (i.cps.toList < j.cps.toList)
theorem or_lt : OpR X (compareOp .Lt) (rOrd (fun i j => decide (i < j)) fun i j => decide (i.cps.toList < j.cps.toList)) := op_lt.or op_lt_str
theorem or_gt : OpR X (compareOp .Gt) (rOrd (fun i j => decide (j < i)) fun i j => decide (j.cps.toList < i.cps.toList)) := op_gt.or op_gt_str
theorem or_ge : OpR X (compareOp .GtE) (rOrd (fun i j => decide (j ≤ i)) fun i j => !decide (i.cps.toList < j.cps.toList)) := op_ge.or op_ge_str
/-- is None, is not None -/
def isN : D → Bool
  | .non => true
  | _ => false
def isD (neg : Bool) (d e : D) : Res D := if isN e = true then .ok (.bl (if neg then !isN d else isN d)) else .bad
theorem RpB.isN {K : PySem.W.Frag} {cm : CM} {S H : Hp} {v : V} {d : D} (h : RpB K cm S H v d) : decide (v = .non) = isN d := by
  rcases h with h | ⟨p, ho, rfl, h2, h3⟩
  · cases h <;> rfl
  · cases h3 <;> rfl
theorem os_is : OpS c (mV c) (fun x y H Q => y = .non ∧ Q (.bl (decide (x = .non))) H) (isD false) := by
  intro σ S H x y d e Q ex hx hy p
  obtain ⟨h, p⟩ := p.ite
  rw [hx.isN]
  refine ⟨of_decide_eq_true (hy.isN.trans h), p.here ex (.bl _)⟩
/-- x in: a list of data, a text in a text, a flat thing in a tuple of flat things -/
def flatD : D → Option V
  | .non => some .non
  | .bl b => some (.bl b)
  | .int i => some (.int i)
  | .str s => some (.str s)
  | _ => none
def flatDs : List D → Option (List V)
  | [] => some []
  | d :: ds => match flatD d, flatDs ds with
    | some v, some vs => some (v :: vs)
    | _, _ => none
def inDeep (d : D) (ds : List D) : Res Bool := match toPy d, toPyL ds with
  | some p, some ps => if SeqAt.shaped p = true ∧ SeqAt.shaped (.list ps) = true then .ok (ps.any fun z => PyData.eqv z p) else .bad
  | _, _ => .bad
def inFlat (d : D) (ds : List D) : Option Bool := match flatD d, flatDs ds with
  | some v, some vs => some (inV v vs)
  | _, _ => none
def inLst (d : D) (ds : List D) : Res Bool := match inFlat d ds with
  | some b => .ok b
  | none => inDeep d ds
def inTup (d : D) (ds : List D) : Res Bool := match inFlat d ds with
  | some b => .ok b
  | none => .bad
def inStr (a b : Str) : Bool := match a.cps.toList with
  | [n] => decide (n ∈ b.cps.toList)
  | _ => !(Builtin.Str.occurrences b a 0 b.length 1).isEmpty
def inB : D → D → Res Bool
  | d, .lst ds => inLst d ds
  | d, .fz ds => inLst d ds
  | d, .tup ds => inTup d ds
  | .str a, .str b => .ok (inStr a b)
  | _, _ => .bad
def inD (d e : D) : Res D := (inB d e).bind fun b => .ok (.bl b)
def ninD (d e : D) : Res D := (inB d e).bind fun b => .ok (.bl (!b))
theorem RpB.flat {K : PySem.W.Frag} {cm : CM} {S H : Hp} {v u : V} {d : D} (h : RpB K cm S H v d) (q : flatD d = some u) : v = u ∧ flatV u = true := by
  rcases h with h | ⟨p, ho, rfl, h2, h3⟩
  · cases h <;> first | (cases q; exact ⟨rfl, rfl⟩) | cases q
  · cases h3 <;> cases q
theorem RpA.flat {K : PySem.W.Frag} {cm : CM} {S : Hp} : ∀ {vs us : List V} {ds : List D}, RpA K cm S vs ds → flatDs ds = some us → vs = us ∧ us.all flatV = true
  | _, _, [], h, q => by cases h; cases q; exact ⟨rfl, rfl⟩
  | _, _, d :: ds, h, q => by
    cases h with | cons a r =>
    rw [flatDs] at q
    cases h1 : flatD d with
    | none => rw [h1] at q; cases q
    | some u =>
      cases h2 : flatDs ds with
      | none => rw [h1, h2] at q; cases q
      | some us =>
        rw [h1, h2] at q
        cases q
        obtain ⟨rfl, z1⟩ := RpB.flat (H := S) (.inl a) h1
        obtain ⟨rfl, z2⟩ := RpA.flat r h2
        exact ⟨rfl, by simp [z1, z2]⟩
def rInX (K : PySem.W.Frag) (neg : Bool) : R2 := fun x y H Q => (∃ d ds, Dp K H x d ∧ Dp K H y (.list ds) ∧ SeqAt.shaped d = true ∧ SeqAt.shaped (.list ds) = true ∧ Q (.bl (if neg then !ds.any fun z => PyData.eqv z d else ds.any fun z => PyData.eqv z d)) H) ∨
  rIn K neg x y H Q ∨ (∃ i j, x = .str i ∧ y = .str j ∧ Q (.bl (if neg then !(!(Builtin.Str.occurrences j i 0 j.length 1).isEmpty) else !(Builtin.Str.occurrences j i 0 j.length 1).isEmpty)) H) ∨
  ∃ (n : Nat) (z : Str), x = .str ⟨#[n]⟩ ∧ y = .str z ∧ Q (.bl (if neg then !decide (n ∈ z.cps.toList) else decide (n ∈ z.cps.toList))) H
theorem or_nin (hu : X.A.units + 65 < cLine) : OpR X (compareOp .NotIn) (rInX X.K true) := (op_notInD hu).or (op_notIn_seq.or (op_notIn_str.or op_notIn_sign))
theorem of_inFlat {S H : Hp} {x : V} {d : D} {xs : List V} {ds : List D} {b : Bool} (hx : RpB c.K c.cm S H x d) (r1 : RpA c.K c.cm S xs ds) (h : inFlat d ds = some b) : flatV x = true ∧ xs.all flatV = true ∧ inV x xs = b := by
  unfold inFlat at h
  split at h
  · rename_i v vs h1 h2
    obtain ⟨rfl, z1⟩ := hx.flat h1
    obtain ⟨rfl, z2⟩ := r1.flat h2
    cases h
    exact ⟨z1, z2, rfl⟩
  · cases h
theorem of_inLst {σ : St} {S H : Hp} {x y : V} {d : D} {ds : List D} {neg : Bool} {Q : VK} {q : Addr} {xs : List V} (ex : Ex S H) (hx : RpB c.K c.cm S H x d) (hy : y = .ref q) (a1 : SqL c.K H q xs) (r1 : RpA c.K c.cm S xs ds) (hd : ∀ ps, toPyL ds = some ps → Dp c.K H y (.list ps))
    (p : PostG c σ S H ((inLst d ds).bind fun b => .ok (.bl (if neg then !b else b))) fun a S' H' => ∀ b, mV c H S' H' b a → Q b H') : rInX c.K neg x y H Q := by
  unfold inLst at p
  split at p
  · rename_i b hb
    obtain ⟨z1, z2, z3⟩ := of_inFlat hx r1 hb
    refine .inr (.inl ⟨q, xs, hy, .inl a1, z1, z2, ?_⟩)
    rw [z3]; exact p.here ex (.bl _)
  · unfold inDeep at p
    split at p
    · rename_i p' ps h1 h2
      by_cases hs : SeqAt.shaped p' = true ∧ SeqAt.shaped (.list ps) = true
      · rw [if_pos hs] at p
        exact .inl ⟨p', ps, hx.dp ex h1, hd ps h2, hs.1, hs.2, p.here ex (.bl _)⟩
      · rw [if_neg hs] at p; exact p.elim
    · exact p.elim
theorem of_inB {σ : St} {S H : Hp} {x y : V} {d e : D} {neg : Bool} {Q : VK} (ex : Ex S H) (hx : RpB c.K c.cm S H x d) (hy : RpB c.K c.cm S H y e)
    (p : PostG c σ S H ((inB d e).bind fun b => .ok (.bl (if neg then !b else b))) fun a S' H' => ∀ b, mV c H S' H' b a → Q b H') : rInX c.K neg x y H Q := by
  unfold inB at p
  split at p
  · obtain ⟨q, xs, hq, a1, r1⟩ := hy.list ex
    exact of_inLst ex hx hq (.inl (.inl a1)) r1 (fun ps h => hy.dp ex (by rw [toPy, h]; rfl)) p
  · obtain ⟨q, xs, hq, a1, r1⟩ := hy.fz ex
    exact of_inLst ex hx hq a1 r1 (fun ps h => hy.dp ex (by rw [toPy, h]; rfl)) p
  · unfold inTup at p
    split at p
    · rename_i b hb
      obtain ⟨q, xs, rfl, a1, r1, s1⟩ := hy.tup ex
      obtain ⟨z1, z2, z3⟩ := of_inFlat hx r1 hb
      refine .inr (.inl ⟨q, xs, rfl, .inr a1, z1, z2, ?_⟩)
      rw [z3]; exact p.here ex (.bl _)
    · exact p.elim
  · rename_i a b
    cases hx.str; cases hy.str
    unfold inStr at p
    split at p
    · rename_i n hn
      have ha : a = ⟨#[n]⟩ := Str.ext' (Array.toList_inj.mp (by rw [hn]))
      exact .inr (.inr (.inr ⟨n, b, by rw [ha], rfl, p.here ex (.bl _)⟩))
    · exact .inr (.inr (.inl ⟨_, _, rfl, rfl, p.here ex (.bl _)⟩))
  · exact p.elim
theorem os_nin : OpS c (mV c) (rInX c.K true) ninD := fun σ S H x y d e Q ex hx hy p => of_inB (neg := true) ex hx hy p
end
end Dx
end S_DxC
section S_DxD
set_option Elab.async false
set_option linter.all false
set_option maxRecDepth 100000
set_option maxHeartbeats 2000000
namespace Dx
open PySem L2
section
variable {X : Cx} {c : Cf} {G : List Ow} {f f1 f2 f3 : Rho → Res D} {a b e : Expr} {es : List Expr} {pos p : Pos} {fs : Rho → Res (List D)}
def dChain (g g' : D → D → Res D) (f1 f2 f3 : Rho → Res D) : Rho → Res D := fun r => (f1 r).bind fun x => (f2 r).bind fun y => (g x y).bind fun z => (asB z).bind fun k => if k = true then (f3 r).bind fun w => g' y w else .ok (.bl false)
def negD : D → Res D
  | .int i => .ok (.int (-i))
  | _ => .bad
def dUn (g : D → Res D) (f : Rho → Res D) : Rho → Res D := fun r => (f r).bind g
theorem de_neg (ha : PE X a (tV c G f)) : PE X (.UnaryOp .USub a pos) (tV c G (dUn negD f)) := pe_imp (pe_un un_neg ha) fun σ H Q ⟨S0, H0, S, r, ok, p⟩ => rd_seq ok p fun d v S1 H1 w1 o1 m1 p1 => by
  cases d with
  | int i => cases m1; exact ⟨i, rfl, p1.go o1.ex _ (.int _)⟩
  | _ => exact p1.elim
theorem de_one {op : BoolOp} (h : PE X a (tV c G f)) : PE X (.BoolOp op [a] pos) (tV c G f) := pe_one h
theorem de_and {rest : List Expr} (ha : PE X a (tV c G f1)) (hb : PE X (.BoolOp .And (b :: rest) pos) (tV c G f2)) : PE X (.BoolOp .And (a :: b :: rest) pos) (tV c G (dAndV f1 f2)) := pe_imp (pe_and ha hb) fun σ H Q ⟨S0, H0, S, r, ok, p⟩ =>
  rd_seq ok p fun d v S1 H1 w1 o1 m1 p1 => by
    obtain ⟨k, rfl, q1⟩ := of_asB (p1.unbind)
    cases m1
    refine ⟨k, rfl, ?_⟩
    have p2 := q1.go o1.ex
    cases k with
    | true => exact ⟨S0, H0, S1, r, o1, p2⟩
    | false => exact p2.go o1.ex _ (.bl _)
theorem de_not (ha : PE X a (tV c G f)) : PE X (.UnaryOp .Not a pos) (tV c G (dNotV f)) := pe_imp (pe_not ha) fun σ H Q ⟨S0, H0, S, r, ok, p⟩ =>
  rd_seq ok p fun d v S1 H1 w1 o1 m1 p1 => by
    obtain ⟨k, rfl, q1⟩ := of_asB (p1.unbind)
    cases m1
    exact ⟨k, rfl, (q1.go o1.ex).go o1.ex _ (.bl _)⟩
def dNil : Rho → Res (List D) := fun _ => .ok []
def dCons (f : Rho → Res D) (g : Rho → Res (List D)) : Rho → Res (List D) := fun r => (f r).bind fun x => (g r).bind fun xs => .ok (x :: xs)
/-- with a mode for each: true, a thing that is only read -/
def RpM (c : Cf) (S H : Hp) : List Bool → List V → List D → Prop
  | [], [], [] => True
  | true :: ms, v :: vs, d :: ds => RpB c.K c.cm S H v d ∧ RpM c S H ms vs ds
  | false :: ms, v :: vs, d :: ds => Rp c.K c.cm S v d ∧ RpM c S H ms vs ds
  | _, _, _ => False
theorem RpM.mono {S H S' H' : Hp} (e : Ex S S') (e' : Ex H H') : ∀ {ms : List Bool} {vs : List V} {ds : List D}, RpM c S H ms vs ds → RpM c S' H' ms vs ds
  | [], [], [], _ => trivial
  | true :: ms, v :: vs, d :: ds, h => ⟨h.1.mono e e', RpM.mono e e' h.2⟩
  | false :: ms, v :: vs, d :: ds, h => ⟨h.1.mono e, RpM.mono e e' h.2⟩
  | [], _ :: _, _, h => h.elim
  | [], [], _ :: _, h => h.elim
  | true :: _, [], _, h => h.elim
  | true :: _, _ :: _, [], h => h.elim
  | false :: _, [], _, h => h.elim
  | false :: _, _ :: _, [], h => h.elim
def mM (c : Cf) (ms : List Bool) : Md (List V) (List D) := fun _ S' H' vs ds => RpM c S' H' ms vs ds
instance {ms : List Bool} : Anti (mM c ms) := ⟨fun _ h => h⟩
abbrev tM (c : Cf) (G : List Ow) (ms : List Bool) (f : Rho → Res (List D)) : TA := rd c G f (mM c ms)
theorem dm_nil : PA X [] (tM c G [] dNil) := pa_imp pa_nil fun σ H Q ⟨S0, H0, S, r, ok, p⟩ => p.go ok.ex _ trivial
theorem dm_bor {ms : List Bool} (ha : PE X e (tR c G f)) (hr : PA X es (tM c G ms fs)) (hs : starEach (e :: es) X.env = (false, eval e X.env) :: starEach es X.env := by rfl) : PA X (e :: es) (tM c G (true :: ms) (dCons f fs)) :=
  pa_imp (pa_cons ha hr hs) fun σ H Q ⟨S0, H0, S, r, ok, p⟩ => rd_seq ok p fun x v S1 H1 w1 o1 m1 p1 => rd_seq o1 p1 fun xs vs S2 H2 w2 o2 m2 p2 => p2.go o2.ex _ ⟨RpB.mono m1 w2.s w2.h, m2⟩
theorem dm_val {ms : List Bool} (ha : PE X e (tV c G f)) (hr : PA X es (tM c G ms fs)) (hs : starEach (e :: es) X.env = (false, eval e X.env) :: starEach es X.env := by rfl) : PA X (e :: es) (tM c G (false :: ms) (dCons f fs)) :=
  pa_imp (pa_cons ha hr hs) fun σ H Q ⟨S0, H0, S, r, ok, p⟩ => rd_seq ok p fun x v S1 H1 w1 o1 m1 p1 => rd_seq o1 p1 fun xs vs S2 H2 w2 o2 m2 p2 => p2.go o2.ex _ ⟨Rp.mono w2.s m1, m2⟩
theorem da_nil : PA X [] (tAs c G dNil) := pa_imp pa_nil fun σ H Q ⟨S0, H0, S, r, ok, p⟩ => p.go ok.ex _ .nil
theorem da_cons (ha : PE X e (tV c G f)) (hr : PA X es (tAs c G fs)) (hs : starEach (e :: es) X.env = (false, eval e X.env) :: starEach es X.env := by rfl) : PA X (e :: es) (tAs c G (dCons f fs)) :=
  pa_imp (pa_cons ha hr hs) fun σ H Q ⟨S0, H0, S, r, ok, p⟩ => rd_seq ok p fun x v S1 H1 w1 o1 m1 p1 => rd_seq o1 p1 fun xs vs S2 H2 w2 o2 m2 p2 => p2.go o2.ex _ (.cons (Rp.mono w2.s m1) m2)
noncomputable def mkTup (ds : List D) : Res D := guard (ds.length ≤ sizeLine) (.ok (.tup ds))
noncomputable def mkLst (ds : List D) : Res D := guard (ds.length ≤ sizeLine) (.ok (.lst ds))
noncomputable def dTup (g : Rho → Res (List D)) : Rho → Res D := fun r => (g r).bind mkTup
noncomputable def dLst (g : Rho → Res (List D)) : Rho → Res D := fun r => (g r).bind mkLst
theorem de_tup {k : Nat} (h : PA X es (tAs c G fs)) : PE X (.Tuple es k pos) (tV c G (dTup fs)) := pe_imp (pe_tup h) fun σ H Q ⟨S0, H0, S, r, ok, p⟩ => rd_seq ok p fun ds vs S1 H1 w1 o1 m1 p1 => by
  obtain ⟨hl, p1⟩ := p1.gd
  exact ⟨by rw [RpA.length m1]; exact hl, fun q hq => p1.laid o1.ex hq (.tup upd_same (RpA.mono (Ex.new (o1.ex.nn hq)) m1))⟩
theorem de_lst (h : PA X es (tAs c G fs)) : PE X (.List es pos) (tO c G (dLst fs)) := pe_imp (pe_lst h) fun σ H Q ⟨S0, H0, S, r, ok, p⟩ => rd_seq ok p fun ds vs S1 H1 w1 o1 m1 p1 => by
  obtain ⟨hl, p1⟩ := p1.gd
  exact ⟨by rw [RpA.length m1]; exact hl, fun q hq => (p1.anti w1.h).kept o1.ex hq (.lst m1)⟩
def CallS (c : Cf) (R : Md V D) (r : List V → Hp → VK → Prop) (ms : List Bool) (g : List D → Res D) : Prop := ∀ (σ : St) (S H : Hp) (vs : List V) (ds : List D) (Q : VK), Ex S H → RpM c S H ms vs ds →
  PostG c σ S H (g ds) (fun a S' H' => ∀ b, R H S' H' b a → Q b H') → r vs H Q
def dCall (g : List D → Res D) (fs : Rho → Res (List D)) : Rho → Res D := fun r => (fs r).bind g
theorem de_bltn {R : Md V D} [Anti R] {x : Str} {id : String} {ms : List Bool} {r : List V → Hp → VK → Prop} {g : List D → Res D} (hc : CallR X (.builtin id) r) (hs : CallS c R r ms g) (hg : Gl X x) (hm : X.mg x = none) (hv : bootBuiltins x = some (.builtin id)) (ha : PA X (e :: es) (tM c G ms fs))
    (hn : x ≠ "__name__" := by decide) (hdb : (x == ("__debug__" : Str)) = false := by decide) (he : starEach (e :: es) X.env = (false, eval e X.env) :: starEach es X.env := by rfl) (hpl : (backTo pos (starEach es X.env)).any (·.1) = false := by rfl) :
    PE X (.Call (.Name x p) (e :: es) [] pos) (rd c G (dCall g fs) R) := pe_imp (pe_callB hc hg hm hv ha hn hdb he hpl) fun σ H Q ⟨S0, H0, S, r, ok, p⟩ => rd_seq ok p fun ds vs S1 H1 w1 o1 m1 p1 => hs σ S1 H1 vs ds Q o1.ex m1 (p1.anti w1.h)
theorem de_type {R : Md V D} [Anti R] {x : Str} {T : String} {ms : List Bool} {r : List V → Hp → VK → Prop} {g : List D → Res D} (hc : CallR X (.type T) r) (hs : CallS c R r ms g) (hg : Gl X x) (hm : X.mg x = none) (hv : bootBuiltins x = some (.type T)) (ha : PA X (e :: es) (tM c G ms fs))
    (hn : x ≠ "__name__" := by decide) (hdb : (x == ("__debug__" : Str)) = false := by decide) (he : starEach (e :: es) X.env = (false, eval e X.env) :: starEach es X.env := by rfl) (hpl : (backTo pos (starEach es X.env)).any (·.1) = false := by rfl) :
    PE X (.Call (.Name x p) (e :: es) [] pos) (rd c G (dCall g fs) R) := pe_imp (pe_callTy hc hg hm hv ha hn hdb he hpl) fun σ H Q ⟨S0, H0, S, r, ok, p⟩ => rd_seq ok p fun ds vs S1 H1 w1 o1 m1 p1 => hs σ S1 H1 vs ds Q o1.ex m1 (p1.anti w1.h)
theorem RpM.one {S H : Hp} {vs : List V} {ds : List D} (h : RpM c S H [true] vs ds) : ∃ v d, vs = [v] ∧ ds = [d] ∧ RpB c.K c.cm S H v d := by
  match vs, ds, h with
  | [v], [d], h => exact ⟨v, d, rfl, rfl, h.1⟩
  | _ :: _ :: _, [_], h => exact h.2.elim
  | [_], _ :: _ :: _, h => exact h.2.elim
  | _ :: _ :: _, _ :: _ :: _, h => exact h.2.elim
  | [], _, h => exact h.elim
  | _ :: _, [], h => exact h.elim
/-- len -/
noncomputable def lenD : D → Res D
  | .str z => guard (z.length ≤ sizeLine) (.ok (.int z.length))
  | .lst ds => .ok (.int ds.length)
  | .fz ds => .ok (.int ds.length)
  | .tup ds => .ok (.int ds.length)
  | .kt ds => .ok (.int ds.length)
  | _ => .bad
def g1 (g : D → Res D) : List D → Res D
  | [d] => g d
  | _ => .bad
def g2 (g : D → D → Res D) : List D → Res D
  | [d, e] => g d e
  | _ => .bad
theorem cs_len : CallS c (mV c) (fun xs H Q => ∃ x n, xs = [x] ∧ LenV c.K x H n ∧ Q (.int n) H) [true] (g1 lenD) := by
  intro σ S H vs ds Q ex m p
  obtain ⟨v, d, rfl, rfl, h⟩ := m.one
  cases d with
  | str z =>
    obtain ⟨hl, p⟩ := p.gd
    cases h.str
    exact ⟨_, _, rfl, ⟨hl, rfl⟩, p.here ex (.int _)⟩
  | lst ds =>
    obtain ⟨q, xs, rfl, a1, r1⟩ := h.list ex
    exact ⟨_, _, rfl, .inl ⟨xs, .inl (.inl a1), r1.length.symm⟩, p.here ex (.int _)⟩
  | fz ds =>
    obtain ⟨q, xs, rfl, a1, r1⟩ := h.fz ex
    exact ⟨_, _, rfl, .inl ⟨xs, a1, r1.length.symm⟩, p.here ex (.int _)⟩
  | tup ds =>
    obtain ⟨q, xs, rfl, a1, r1, s1⟩ := h.tup ex
    exact ⟨_, _, rfl, .inr ⟨xs, a1, r1.length.symm⟩, p.here ex (.int _)⟩
  | kt ds =>
    obtain ⟨q, xs, rfl, a1, r1, s1⟩ := h.kt ex
    exact ⟨_, _, rfl, .inr ⟨xs, a1, r1.length.symm⟩, p.here ex (.int _)⟩
  | _ => exact p.elim
/-- int(..) -/
noncomputable def intD : D → Res D
  | .int i => .ok (.int i)
  | .bl k => .ok (.int (if k then 1 else 0))
  | .str a => match PySem.intText? a with
    | some n => guard (a.length ≤ 640) (.ok (.int n))
    | none => .bad
  | _ => .bad
def rIntX : List V → Hp → VK → Prop := fun xs H Q => ((∃ i, xs = [.int i] ∧ Q (.int i) H) ∨ ∃ k, xs = [.bl k] ∧ Q (.int (if k then 1 else 0)) H) ∨ ∃ a n, xs = [.str a] ∧ PySem.intText? a = some n ∧ a.length ≤ 640 ∧ Q (.int n) H
theorem cr_int : CallR X (.type "int") rIntX := call_int1.or call_int_str
theorem cs_int : CallS c (mV c) rIntX [true] (g1 intD) := by
  intro σ S H vs ds Q ex m p
  obtain ⟨v, d, rfl, rfl, h⟩ := m.one
  cases d with
  | int i => cases h.int; exact .inl (.inl ⟨_, rfl, p.here ex (.int _)⟩)
  | bl k => cases h.bl; exact .inl (.inr ⟨_, rfl, p.here ex (.int _)⟩)
  | str a =>
    cases h.str
    unfold g1 intD at p
    dsimp only at p
    split at p
    · rename_i n hn
      obtain ⟨hl, p⟩ := p.gd
      exact .inr ⟨_, n, rfl, hn, hl, p.here ex (.int _)⟩
    · exact p.elim
  | _ => exact p.elim
def absD : D → Res D
  | .int i => .ok (.int (if i < 0 then -i else i))
  | _ => .bad
/-- list(..), tuple(..) -/
def itemsL : D → Res (List D)
  | .lst ds => .ok ds
  | .fz ds => .ok ds
  | _ => .bad
def itemsT : D → Res (List D)
  | .tup ds => .ok ds
  | _ => .bad
def items : D → Res (List D)
  | .lst ds => .ok ds
  | .fz ds => .ok ds
  | .tup ds => .ok ds
  | _ => .bad
def listD (d : D) : Res D := match d with
  | .kt ds => .ok (.lst ds)
  | d => (items d).bind fun ds => .ok (.lst ds)
theorem cs_list : CallS c (mO c) (fun xs H Q => ∃ p ys, xs = [.ref p] ∧ (SqL c.K H p ys ∨ SqT c.K H p ys) ∧ ∀ l, H l = none → Q (.ref l) (upd H l (.lst ys))) [true] (g1 listD) := by
  intro σ S H vs ds Q ex m p
  obtain ⟨v, d, rfl, rfl, h⟩ := m.one
  cases d with
  | lst ds =>
    obtain ⟨q, xs, rfl, a1, r1⟩ := h.list ex
    exact ⟨q, xs, rfl, .inl (.inl (.inl a1)), fun l hl => p.kept ex hl (.lst r1)⟩
  | fz ds =>
    obtain ⟨q, xs, rfl, a1, r1⟩ := h.fz ex
    exact ⟨q, xs, rfl, .inl a1, fun l hl => p.kept ex hl (.lst r1)⟩
  | tup ds =>
    obtain ⟨q, xs, rfl, a1, r1, s1⟩ := h.tup ex
    exact ⟨q, xs, rfl, .inr a1, fun l hl => p.kept ex hl (.lst r1)⟩
  | kt ds =>
    obtain ⟨q, xs, rfl, a1, r1, s1⟩ := h.kt ex
    exact ⟨q, xs, rfl, .inr a1, fun l hl => p.kept ex hl (.lst r1)⟩
  | _ => exact p.elim
def tupleD (d : D) : Res D := (items d).bind fun ds => .ok (.tup ds)
/-- str(n), str(text) is not here: see part T -/
noncomputable def strD : D → Res D
  | .int i => guard (i.natAbs.log2 < 1920) (.ok (.str (toString i)))
  | _ => .bad
def tyN : D → Option String
  | .non => some "NoneType"
  | .bl _ => some "bool"
  | .int _ => some "int"
  | .str _ => some "str"
  | .lst _ => some "list"
  | .fz _ => some "list"
  | .tup _ => some "tuple"
  | .kt _ => some "tuple"
  | .dk _ _ => some "dict"
  | .dt _ _ => none
  | .obj _ _ _ => none
  | .own _ => none
  | .st _ _ => none
def isiD (T : String) (d : D) : Res D := match tyN d with
  | some n => match kitB n T with
    | some b => .ok (.bl b)
    | none => .bad
  | none => .bad
theorem RpB.ty {K : PySem.W.Frag} {cm : CM} {S H : Hp} {v : V} {d : D} {n : String} (h : RpB K cm S H v d) (ex : Ex S H) (q : tyN d = some n) : TyX K H v (.type n) := by
  cases d with
  | non => cases h.non; cases q; exact .base .non
  | bl b => cases h.bl; cases q; exact .base (.bl b)
  | int i => cases h.int; cases q; exact .base (.int i)
  | str s => cases h.str; cases q; exact .base (.str s)
  | lst ds => obtain ⟨p, xs, rfl, a, r⟩ := h.list ex; cases q; exact .base (.lst a)
  | fz ds =>
    obtain ⟨p, xs, rfl, a, r⟩ := h.fz ex; cases q
    rcases a with (a | ⟨o, a⟩) | ⟨o, its, m, a1, a2, _⟩
    · exact .base (.lst a)
    · exact .base (.frz a)
    · exact .kList a1 a2
  | tup ds =>
    obtain ⟨p, xs, rfl, a, r, s⟩ := h.tup ex; cases q
    rcases a with (a | ⟨o, a⟩) | ⟨o, its, m, a1, a2, _⟩
    · exact .base (.tup a)
    · exact .fTuple a
    · exact .kTuple a1 a2
  | dk ks vs =>
    obtain ⟨p, xs, rfl, a, r⟩ := h.dk ex; cases q
    rcases a with a | ⟨o, a⟩
    · exact .base (.dK a)
    · exact .fDict a
  | dt ks vs => cases q
  | kt ds =>
    obtain ⟨p, xs, rfl, a, r, s⟩ := h.kt ex; cases q
    rcases a with (a | ⟨o, a⟩) | ⟨o, its, m, a1, a2, _⟩
    · exact .base (.tup a)
    · exact .fTuple a
    · exact .kTuple a1 a2
  | obj n ns vs => cases q
  | own k => cases q
  | st k M => cases q
/-- the class's name is a built-in's that stands as it was -/
theorem de_isi {x : Str} {pT : Pos} (T : String) (hm : X.mg "isinstance" = none) (hg : Gl X "isinstance") (gT : Gl X x) (mT : X.mg x = none) (bT : bootBuiltins x = some (.type T)) (ha : PE X e (tR c G f)) (hK : c.K = X.K := by rfl)
    (hn : x ≠ "__name__" := by decide) (hd : (x == ("__debug__" : Str)) = false := by decide)
    (hs1 : starEach [e, .Name x pT] X.env = (false, eval e X.env) :: starEach [.Name x pT] X.env := by rfl) (hs2 : starEach [.Name x pT] X.env = (false, eval (.Name x pT) X.env) :: starEach [] X.env := by rfl) (hpl : (backTo pos (starEach [.Name x pT] X.env)).any (·.1) = false := by rfl) :
    PE X (.Call (.Name "isinstance" p) [e, .Name x pT] [] pos) (tV c G (dUn (isiD T) f)) := by
  have hT : PE X (.Name x pT) (tC (.ty T)) := pe_bltn gT mT bT rfl hn hd
  refine pe_imp (pe_callB call_isi hg hm (by decide +kernel) (pa_cons ha (pa_cons hT pa_nil hs2) hs1) (he := hs1) (hpl := hpl)) fun σ H Q ⟨S0, H0, S, r, ok, p⟩ => rd_seq ok p fun d v S1 H1 w1 o1 m1 p1 => ?_
  unfold isiD at p1
  split at p1
  · rename_i n hn
    split at p1
    · rename_i b hb
      exact ⟨v, .ty T, .type n, .type T, b, rfl, .ty T, by rw [← hK]; exact RpB.ty m1 o1.ex hn, kit_ty hb, p1.go o1.ex _ (.bl _)⟩
    · exact p1.elim
  · exact p1.elim
noncomputable def ixD : D → D → Res D
  | .lst ds, .int i => match atI ds i with
    | some d => .ok d
    | none => .bad
  | .fz ds, .int i => match atI ds i with
    | some d => .ok d
    | none => .bad
  | .tup ds, .int i => match atI ds i with
    | some d => .ok d
    | none => .bad
  | .kt ds, .int i => match atI ds i with
    | some d => .ok d
    | none => .bad
  | .str z, .int i => guard (z.length ≤ sizeLine) (match atI z.cps.toList i with
    | some n => .ok (.str ⟨#[n]⟩)
    | none => .bad)
  | _, _ => .bad
theorem RpA.atI {K : PySem.W.Frag} {cm : CM} {S : Hp} {xs : List V} {ds : List D} {i : Int} {d : D} (h : RpA K cm S xs ds) (q : atI ds i = some d) : ∃ v, L2.atI xs i = some v ∧ Rp K cm S v d := by
  unfold L2.atI at q ⊢
  rw [h.length]
  cases hj : ixN ds.length i with
  | none => rw [hj] at q; cases q
  | some j => rw [hj] at q; exact h.get q
theorem os_ix : OpS c (mV c) (rIx c.K) ixD := by
  intro σ S H x y d e Q ex hx hy p
  unfold ixD at p
  split at p
  · split at p
    · rename_i hd
      obtain ⟨q, xs, rfl, a1, r1⟩ := hx.list ex
      cases hy.int
      obtain ⟨v, h1, h2⟩ := r1.atI hd
      exact .inl ⟨q, xs, _, v, rfl, rfl, .inl (.inl a1), h1, p.here ex h2⟩
    · exact p.elim
  · split at p
    · rename_i hd
      obtain ⟨q, xs, rfl, a1, r1⟩ := hx.fz ex
      cases hy.int
      obtain ⟨v, h1, h2⟩ := r1.atI hd
      exact .inl ⟨q, xs, _, v, rfl, rfl, a1, h1, p.here ex h2⟩
    · exact p.elim
  · split at p
    · rename_i hd
      obtain ⟨q, xs, rfl, a1, r1, s1⟩ := hx.tup ex
      cases hy.int
      obtain ⟨v, h1, h2⟩ := r1.atI hd
      exact .inr (.inl ⟨q, xs, _, v, rfl, rfl, a1, h1, p.here ex h2⟩)
    · exact p.elim
  · split at p
    · rename_i hd
      obtain ⟨q, xs, rfl, a1, r1, s1⟩ := hx.kt ex
      cases hy.int
      obtain ⟨v, h1, h2⟩ := r1.atI hd
      exact .inr (.inl ⟨q, xs, _, v, rfl, rfl, a1, h1, p.here ex h2⟩)
    · exact p.elim
  · obtain ⟨hl, p⟩ := p.gd
    cases hx.str; cases hy.int
    split at p
    · rename_i hd
      exact .inr (.inr ⟨_, _, _, rfl, rfl, hl, hd, p.here ex (.str _)⟩)
    · exact p.elim
  · exact p.elim
theorem de_ix (ha : PE X a (tR c G f1)) (hb : PE X b (tR c G f2)) (hs : PlainIx b) (hK : c.K = X.K := by rfl) : PE X (.Subscript a b pos) (tV c G (dOp ixD f1 f2)) :=
  pe_imp (pe_ix ix_seq ha hb hs) (by rw [← hK]; exact op_rd os_ix)
def cutL {α : Type} (xs : List α) (lo hi : Option Int) : List α := (xs.drop (HT.sIx xs.length 0 lo)).take (HT.sIx xs.length xs.length hi - HT.sIx xs.length 0 lo)
def asI : D → Res Int
  | .int i => .ok i
  | _ => .bad
def dNoP : Rho → Res (Option Int) := fun _ => .ok none
def dPart (f : Rho → Res D) : Rho → Res (Option Int) := fun r => (f r).bind fun d => (asI d).bind fun i => .ok (some i)
theorem po_imp {oe : Option Expr} {t t' : TO} (h : PO X oe t) (k : ∀ σ H Q, t' σ H Q → t σ H Q) : PO X oe t' := ⟨fun pins s σ H Q I q => h.run pins s σ H Q I (k σ H Q q)⟩
abbrev tP (c : Cf) (G : List Ow) (f : Rho → Res (Option Int)) : TO := rd c G f (mE (Option Int))
theorem dp_none : PO X none (tP c G dNoP) := po_imp po_none fun σ H Q ⟨S0, H0, S, r, ok, p⟩ => p.go ok.ex _ rfl
theorem of_asI {σ : St} {S H : Hp} {d : D} {k : Int → Hp → Hp → Prop} (p : PostG c σ S H (asI d) k) : ∃ i, d = .int i ∧ PostG c σ S H (.ok i) k := by
  cases d with
  | int i => exact ⟨i, rfl, p⟩
  | _ => exact p.elim
theorem dp_some (h : PE X e (tV c G f)) : PO X (some e) (tP c G (dPart f)) := po_imp (po_some h) fun σ H Q ⟨S0, H0, S, r, ok, p⟩ => rd_seq ok p fun d v S1 H1 w1 o1 m1 p1 => by
  obtain ⟨i, rfl, q1⟩ := of_asI p1.unbind
  cases m1
  exact ⟨i, rfl, (q1.go o1.ex).go o1.ex _ rfl⟩
variable {fl fh : Rho → Res (Option Int)} {lo hi : Option Expr} {p2 : Pos}
noncomputable def slD (d : D) (lo hi : Option Int) : Res D := match d with
  | .lst ds => .ok (.lst (cutL ds lo hi))
  | .fz ds => .ok (.lst (cutL ds lo hi))
  | .tup ds => .ok (.tup (cutL ds lo hi))
  | .str z => guard (z.length ≤ sizeLine) (.ok (.str (cutS z lo hi)))
  | _ => .bad
def dSl (g : D → Option Int → Option Int → Res D) (f : Rho → Res D) (fl fh : Rho → Res (Option Int)) : Rho → Res D := fun r => (f r).bind fun d => (fl r).bind fun l => (fh r).bind fun h => g d l h
def rSlX (K : PySem.W.Frag) : V → Option Int → Option Int → Hp → VK → Prop := fun x lo hi H Q => rSlL K x lo hi H Q ∨ rSlA K x lo hi H Q ∨ rSlS x lo hi H Q
theorem sl_x : SlR X (rSlX X.K) := sl_list.or (sl_tupA.or sl_str)
theorem RpA.cut {K : PySem.W.Frag} {cm : CM} {S : Hp} {xs : List V} {ds : List D} {lo hi : Option Int} (h : RpA K cm S xs ds) : RpA K cm S (cutV xs lo hi) (cutL ds lo hi) := by
  unfold cutV cutL
  rw [h.length]
  exact (h.drop _).take _
theorem cutV_whole {xs : List V} {lo hi : Option Int} (h : HT.sIx xs.length 0 lo = 0 ∧ HT.sIx xs.length xs.length hi = xs.length) : cutV xs lo hi = xs := by
  unfold cutV
  rw [h.1, h.2]
  simp
theorem de_sl (ha : PE X a (tR c G f)) (hl : PO X lo (tP c G fl)) (hh : PO X hi (tP c G fh)) (hK : c.K = X.K := by rfl) : PE X (.Subscript a (.Slice lo hi none p2) pos) (tV c G (dSl slD f fl fh)) :=
  pe_imp (pe_slice sl_x ha hl hh) fun σ H Q ⟨S0, H0, S, r, ok, p⟩ => rd_seq ok p fun d v S1 H1 w1 o1 m1 p1 => rd_seq o1 p1 fun l l' S2 H2 w2 o2 m2 p2 => rd_seq o2 p2 fun h h' S3 H3 w3 o3 m3 p3 => by
    have m1 := RpB.mono m1 (w2.s.trans w3.s) (w2.h.trans w3.h)
    rw [show l' = l from m2, show h' = h from m3, ← hK]
    cases d with
    | lst ds =>
      obtain ⟨q, xs, rfl, a1, r1⟩ := m1.list o3.ex
      exact .inl ⟨q, xs, rfl, .inl (.inl a1), fun q hq => PostG.laid p3 o3.ex hq (.lst upd_same (r1.cut.mono (Ex.new (o3.ex.nn hq))))⟩
    | fz ds =>
      obtain ⟨q, xs, rfl, a1, r1⟩ := m1.fz o3.ex
      exact .inl ⟨q, xs, rfl, a1, fun q hq => PostG.laid p3 o3.ex hq (.lst upd_same (r1.cut.mono (Ex.new (o3.ex.nn hq))))⟩
    | tup ds =>
      obtain ⟨q, xs, rfl, a1, r1, s1⟩ := m1.tup o3.ex
      refine .inr (.inl ⟨q, xs, rfl, a1, fun hw => p3.go o3.ex _ (.tup s1 ?_), fun _ q hq => PostG.laid p3 o3.ex hq (.tup upd_same (r1.cut.mono (Ex.new (o3.ex.nn hq))))⟩)
      have := r1.cut (lo := l) (hi := h)
      rw [cutV_whole hw] at this
      exact this
    | str z =>
      obtain ⟨hl, p3⟩ := p3.gd
      cases m1.str
      exact .inr (.inr ⟨z, rfl, hl, p3.go o3.ex _ (.str _)⟩)
    | _ => exact p3.elim
/-- a slice of a list, the new list one's own -/
def slL (d : D) (lo hi : Option Int) : Res D := match d with
  | .lst ds => .ok (.lst (cutL ds lo hi))
  | .fz ds => .ok (.lst (cutL ds lo hi))
  | _ => .bad
end
end Dx
end S_DxD
section S_DxE
set_option Elab.async false
set_option linter.all false
set_option maxRecDepth 100000
set_option maxHeartbeats 2000000
namespace Dx
open PySem L2
/-- what is wanted behind a statement -/
def PostS (c : Cf) (S0 H0 : Hp) (L G' : List Ow) (o : SR) (E : Ends) : Prop :=
  match o with
  | .nx r => ∀ σ' S' H', EnvOk c S0 H0 G' S' H' σ' r → E.nx σ' H'
  | .rt d => if c.rm then ∀ p ho S' H', Fwd S0 H0 S' H' → H0 p = none → S' p = none → H' p = some ho → RpO c.K c.cm S' ho d → E.rt (.ref p) H'
      else ∀ v S' H', Fwd S0 H0 S' H' → Rp c.K c.cm S' v d → E.rt v H'
  | .bk r => ∀ σ' S' H', EnvOk c S0 H0 L S' H' σ' r → E.bk σ' H'
  | .ct r => ∀ σ' S' H', EnvOk c S0 H0 L S' H' σ' r → E.ct σ' H'
  | .er r n ns vs => ∀ C dd σ' S' H' fs, c.cm n = some C → Fwd S0 H0 S' H' → (∀ g, c.ge = some g → EnvOk c S0 H0 g S' H' σ' r) → S' dd = some (.xd fs) → ns = fs.map (·.1) → RpA c.K c.cm S' (fs.map (·.2)) vs → c.W (.ref C) (some dd) σ' H'
  | .bad => False
def sD (c : Cf) (L G G' : List Ow) (F : Rho → SR) : TS := fun E σ H => ∃ S0 H0 S r, EnvOk c S0 H0 G S H σ r ∧ PostS c S0 H0 L G' (F r) E
def liftS {α : Type} (r : Rho) (x : Res α) (k : α → SR) : SR := match x with
  | .ok a => k a
  | .err n ns vs => .er r n ns vs
  | .bad => .bad
/-- where a try's clauses ask for the slots, the kinds are the ones told -/
def Gok (c : Cf) (G : List Ow) : Prop := ∀ g, c.ge = some g → g = G
section
variable {X : Cx} {c : Cf} {L G G' G'' : List Ow} {σ : St} {S0 H0 S H : Hp} {r : Rho} {α β : Type} {E : Ends}
theorem st_seq {f : Rho → Res α} {R : Md β α} (hg : Gok c G) (e : EnvOk c S0 H0 G S H σ r) {k : α → SR} (p : PostS c S0 H0 L G' (liftS r (f r) k) E) {Q : β → Hp → Prop}
    (h : ∀ a b S' H', Fwd S H S' H' → EnvOk c S0 H0 G S' H' σ r → R H S' H' b a → PostS c S0 H0 L G' (k a) E → Q b H') : rd c G f R σ H Q := by
  refine ⟨S0, H0, S, r, e, ?_⟩
  cases hf : f r with
  | ok a => rw [hf] at p; exact fun S' H' fw b hb => h a b S' H' fw (e.go fw) hb p
  | err n ns vs =>
    rw [hf] at p
    exact fun C dd S' H' fs h1 fw h2 h3 h4 => p C dd σ S' H' fs h1 (e.fwd.trans fw) (fun g q => by rw [hg g q]; exact e.go fw) h2 h3 h4
  | bad => rw [hf] at p; exact p.elim
/-- the stable part as the new base -/
theorem EnvOk.rebase (e : EnvOk c S0 H0 G S H σ r) : EnvOk c S H0 G S H σ r := ⟨⟨Ex.refl, e.fwd.h, e.fwd.sub, fun a o h n => by rw [n] at h; cases h⟩, e.len, e.slot, e.sep, e.sto⟩
theorem Fwd.unbase {S' H' : Hp} (f : Fwd S0 H0 S H) (g : Fwd S H0 S' H') : Fwd S0 H0 S' H' := ⟨f.s.trans g.s, g.h, g.sub, fun a o h n => by
  cases q : S a with
  | some u => exact f.new a u q n
  | none => exact g.new a o h q⟩
theorem EnvOk.unbase {S' H' : Hp} {σ' : St} {r' : Rho} (f : Fwd S0 H0 S H) (e : EnvOk c S H0 G' S' H' σ' r') : EnvOk c S0 H0 G' S' H' σ' r' := ⟨f.unbase e.fwd, e.len, e.slot, e.sep, e.sto⟩
theorem PostS.rebase {o : SR} (f : Fwd S0 H0 S H) (p : PostS c S0 H0 L G' o E) : PostS c S H0 L G' o E := by
  cases o with
  | nx r => exact fun σ' S' H' e => p σ' S' H' (e.unbase f)
  | rt d =>
    unfold PostS at p ⊢
    dsimp only at p ⊢
    split
    · rename_i h
      rw [if_pos h] at p
      exact fun q ho S' H' w => p q ho S' H' (f.unbase w)
    · rename_i h
      rw [if_neg h] at p
      exact fun v S' H' w => p v S' H' (f.unbase w)
  | bk r => exact fun σ' S' H' e => p σ' S' H' (e.unbase f)
  | ct r => exact fun σ' S' H' e => p σ' S' H' (e.unbase f)
  | er r n ns vs => exact fun C dd σ' S' H' fs h1 w h2 => p C dd σ' S' H' fs h1 (f.unbase w) fun g q => (h2 g q).unbase f
  | bad => exact p
def seqF (F K : Rho → SR) : Rho → SR := fun r => match F r with
  | .nx r' => K r'
  | o => o
theorem ds_nil : PSs X [] (sD c L G G .nx) := pss_imp pss_nil fun E σ H ⟨S0, H0, S, r, ok, p⟩ => p σ S H ok
theorem ds_cons {st : Stmt} {rest : List Stmt} {F K : Rho → SR} (h1 : PS X st (sD c L G G' F)) (h2 : PSs X rest (sD c L G' G'' K)) : PSs X (st :: rest) (sD c L G G'' (seqF F K)) := pss_imp (pss_cons h1 h2) fun E σ H ⟨S0, H0, S, r, ok, p⟩ => by
  refine ⟨S0, H0, S, r, ok, ?_⟩
  unfold seqF at p
  cases hF : F r with
  | nx r' => rw [hF] at p; exact fun σ' S' H' e => ⟨S0, H0, S', r', e, p⟩
  | rt d => rw [hF] at p; exact p
  | bk r' => rw [hF] at p; exact p
  | ct r' => rw [hF] at p; exact p
  | er r' n ns vs => rw [hF] at p; exact p
  | bad => rw [hF] at p; exact p.elim
theorem ds_one {st : Stmt} {F : Rho → SR} (h1 : PS X st (sD c L G G' F)) : PSs X [st] (sD c L G G' F) := pss_one h1
/-- an own object becomes a value, ahead of a block; behind one -/
theorem EnvOk.pubL (e : EnvOk c S0 H0 G S H σ r) (i : Nat) (hk : kd G i = .o ∨ kd G i = .v) : Lo (fun H => ∃ S', EnvOk c S0 H0 (G.set i .v) S' H σ r) H := by
  by_cases h : kd G i = .o ∧ ∃ d, r[i]? = some (some d) ∧ isDct d = true
  · obtain ⟨k, d, h1, h2⟩ := h
    exact .inr (e.pubD i k h1 h2)
  · by_cases k : kd G i = .o
    · exact .inl (e.pub i hk fun d hd => by
        cases q : isDct d with
        | false => rfl
        | true => exact (h ⟨k, d, hd, q⟩).elim)
    · have k' : kd G i = .v := hk.resolve_left k
      have all : ∀ j, kd (G.set i .v) j = kd G j := fun j => by
        by_cases ne : i = j
        · subst ne; rw [kd_set_self, k']
        · exact kd_set_ne ne
      exact .inl ⟨S, e.fwd, e.len, fun j b hb => by rw [all]; exact e.slot j b hb, fun j l b b' q hj hk kj kk sj sk => e.sep j l b b' q hj hk ((all j) ▸ kj) ((all l) ▸ kk) sj sk, e.sto_un i hk⟩
theorem Lo.imp {Q R : Hp → Prop} {H : Hp} (h : Lo Q H) (k : ∀ H, Q H → R H) : Lo R H := by
  rcases h with h | ⟨p, u, h1, h2, h⟩
  · exact .inl (k _ h)
  · exact .inr ⟨p, u, h1, h2, fun w => k _ (h w)⟩
theorem ds_pub {sts : List Stmt} {F : Rho → SR} (i : Nat) (h : PSs X sts (sD c L (G.set i .v) G' F)) (hk : kd G i = .o ∨ kd G i = .v) : PSs X sts (sD c L G G' F) := pss_lock h fun E σ H ⟨S0, H0, S, r, ok, p⟩ =>
  (ok.pubL i hk).imp fun H' ⟨S', ok'⟩ => ⟨S0, H0, S', r, ok', p⟩
variable {e : Expr} {pos : Pos} {f : Rho → Res D}
def setF (i : Nat) (f : Rho → Res D) : Rho → SR := fun r => liftS r (f r) fun d => .nx (r.set i (some d))
/-- x = e -/
theorem ds_set (i : Nat) {x : Str} {pos' : Pos} (hg : Gok c G) (hN : X.N.Nodup) (hi : X.N[i]? = some x) (hx : Loc X.env.scope x) (he : PE X e (tV c G f)) (hs : swapsWith e (some (.Name x pos')) pos.line X.env = pure false := by rfl)
    (hf : X.fn x = true ∨ X.env.scope.names.lookup x = some .local := by first | exact .inl rfl | exact .inr rfl | assumption) : PS X (.Assign [.Name x pos'] e pos) (sD c L G (G.set i .v) (setF i f)) :=
  ps_imp (ps_set hN hi hx he hs hf) fun E σ H ⟨S0, H0, S, r, ok, p⟩ => st_seq hg ok p fun d v S1 H1 w1 o1 m1 p1 => p1 _ S1 H1 (o1.setV i m1)
/-- x = e, a new object of one's own -/
theorem ds_setO (i : Nat) {x : Str} {pos' : Pos} (hg : Gok c G) (hG : i < G.length) (hN : X.N.Nodup) (hi : X.N[i]? = some x) (hx : Loc X.env.scope x) (he : PE X e (tO c G f)) (hs : swapsWith e (some (.Name x pos')) pos.line X.env = pure false := by rfl)
    (hf : X.fn x = true ∨ X.env.scope.names.lookup x = some .local := by first | exact .inl rfl | exact .inr rfl | assumption) : PS X (.Assign [.Name x pos'] e pos) (sD c L G (G.set i .o) (setF i f)) :=
  ps_imp (ps_set hN hi hx he hs hf) fun E σ H ⟨S0, H0, S, r, ok, p⟩ => st_seq hg ok p fun d v S1 H1 w1 o1 m1 p1 => by
    obtain ⟨q, ho, rfl, n, ns, hp, h⟩ := m1
    exact p1 _ S1 H1 (ok.setO w1 i hG n ns hp h)
def retF (f : Rho → Res D) : Rho → SR := fun r => liftS r (f r) .rt
theorem ds_ret (hg : Gok c G) (hr : c.rm = false) (he : PE X e (tV c G f)) : PS X (.Return (some e) pos) (sD c L G G' (retF f)) := ps_imp (ps_ret he) fun E σ H ⟨S0, H0, S, r, ok, p⟩ => st_seq hg ok p fun d v S1 H1 w1 o1 m1 p1 => by
  unfold PostS at p1
  rw [hr] at p1
  exact p1 v S1 H1 o1.fwd m1
def dropF {α : Type} (f : Rho → Res α) : Rho → SR := fun r => liftS r (f r) fun _ => .nx r
theorem ds_expr {R : Md V D} (hg : Gok c G) (he : PE X e (rd c G f R)) (hs : swapsWith e none pos.line X.env = pure false := by rfl) : PS X (.Expr e pos) (sD c L G G (dropF f)) := ps_imp (ps_expr he hs) fun E σ H ⟨S0, H0, S, r, ok, p⟩ =>
  st_seq hg ok p fun d v S1 H1 w1 o1 m1 p1 => p1 σ S1 H1 o1
theorem ds_cont : PS X (.Continue pos) (sD c G G G' .ct) := ps_imp ps_continue fun E σ H ⟨S0, H0, S, r, ok, p⟩ => p σ S H ok
def ifF (t : Rho → Res Bool) (F K : Rho → SR) : Rho → SR := fun r => liftS r (t r) fun b => if b = true then F r else K r
theorem ds_if {cnd : Expr} {sa sb : List Stmt} {t : Rho → Res Bool} {F K : Rho → SR} (hg : Gok c G) (hc : PT X cnd (tT c G t)) (ha : PSs X sa (sD c L G G' F)) (hb : PSs X sb (sD c L G G' K)) : PS X (.If cnd sa sb pos) (sD c L G G' (ifF t F K)) :=
  ps_imp (ps_if hc ha hb) fun E σ H ⟨S0, H0, S, r, ok, p⟩ => st_seq hg ok p fun x v S1 H1 w1 o1 m1 p1 => by
    rw [show v = x from m1]
    cases x with
    | true => exact ⟨S0, H0, S1, r, o1, p1⟩
    | false => exact ⟨S0, H0, S1, r, o1, p1⟩
variable {a b : Expr} {f1 f2 : Rho → Res D} {apos cpos p' : Pos}
/-- the own list in slot i -/
def ownL (i : Nat) (r : Rho) : Res (List D) := match r[i]? with
  | some (some (.lst ds)) => .ok ds
  | _ => .bad
theorem of_ownL {i : Nat} {k : List D → SR} (e : EnvOk c S0 H0 G S H σ r) (kd' : kd G i = .o) (p : PostS c S0 H0 L G' (liftS r (ownL i r) k) E) :
    ∃ q xs ds, r[i]? = some (some (.lst ds)) ∧ σ[i]? = some (some (.ref q)) ∧ H q = some (.lst xs) ∧ RpA c.K c.cm S xs ds ∧ PostS c S0 H0 L G' (k ds) E := by
  unfold ownL at p
  split at p
  · rename_i ds hd
    obtain ⟨q, ho, s1, s2, s3, s4, s5⟩ := e.own kd' hd
    cases s5 with
    | lst r1 => exact ⟨q, _, ds, hd, s1, s2, r1, p⟩
  · exact p.elim
noncomputable def guardS (p : Prop) (x : SR) : SR := @ite _ p (Classical.propDecidable p) x .bad
theorem guardS_pos {p : Prop} {x : SR} (h : p) : guardS p x = x := by unfold guardS; exact if_pos h
noncomputable def appF (i : Nat) (f : Rho → Res D) : Rho → SR := fun r => liftS r (ownL i r) fun ds => liftS r (f r) fun d => guardS (ds.length < sizeLine) (.nx (r.set i (some (.lst (ds ++ [d])))))
theorem PostS.ite {p : Prop} [Decidable p] {x : SR} (h : PostS c S0 H0 L G' (if p then x else .bad) E) : p ∧ PostS c S0 H0 L G' x E := by
  by_cases hp : p
  · rw [if_pos hp] at h; exact ⟨hp, h⟩
  · rw [if_neg hp] at h; exact h.elim
theorem PostS.gd {p : Prop} {x : SR} (h : PostS c S0 H0 L G' (guardS p x) E) : p ∧ PostS c S0 H0 L G' x E := by
  by_cases hp : p
  · rw [guardS_pos hp] at h; exact ⟨hp, h⟩
  · unfold guardS at h; rw [if_neg hp] at h; exact h.elim
theorem pe_app {o : Expr} {to te : TE} (ho : PE X o to) (he : PE X e te) (hbase : attributeBase o "append" X.env (eval o X.env) = eval o X.env := by rfl)
    (hfew : ((backTo cpos (starEach [e] X.env)).all (fun x => !x.1) && (backToKw cpos (keywordEach [] X.env)).all (fun x => x.1.isSome) && decide ([e].length + ([] : List Keyword).length + (if ([] : List Keyword).isEmpty then 0 else 1) < 30)) = true := by rfl)
    (hline : (apos.endLine == cpos.line) = true := by rfl) (hs : starEach [e] X.env = (false, eval e X.env) :: starEach [] X.env := by rfl) :
    PE X (.Call (.Attribute o "append" apos) [e] [] cpos) (tBM X.K "list" rAppend to (tCons te tNil)) :=
  pe_bm PySem.F.plainAttrs_list PySem.F.slot_list_append PySem.F.type_list_append mt_append ho (pa_cons he pa_nil hs) hbase hfew hline hs rfl
theorem ds_app (i : Nat) {x : Str} {pn : Pos} (hg : Gok c G) (k : kd G i = .o) (ho : PE X (.Name x pn) (tVar i)) (he : PE X e (tV c G f)) (hw : swapsWith (.Call (.Attribute (.Name x pn) "append" apos) [e] [] cpos) none pos.line X.env = pure false := by rfl)
    (hbase : attributeBase (.Name x pn) "append" X.env (eval (.Name x pn) X.env) = eval (.Name x pn) X.env := by rfl)
    (hfew : ((backTo cpos (starEach [e] X.env)).all (fun x => !x.1) && (backToKw cpos (keywordEach [] X.env)).all (fun x => x.1.isSome) && decide ([e].length + ([] : List Keyword).length + (if ([] : List Keyword).isEmpty then 0 else 1) < 30)) = true := by rfl)
    (hline : (apos.endLine == cpos.line) = true := by rfl) (hs : starEach [e] X.env = (false, eval e X.env) :: starEach [] X.env := by rfl) :
    PS X (.Expr (.Call (.Attribute (.Name x pn) "append" apos) [e] [] cpos) pos) (sD c L G G (appF i f)) :=
  ps_imp (ps_expr (pe_app ho he hbase hfew hline hs) hw) fun E σ H ⟨S0, H0, S, r, ok, p⟩ => by
    obtain ⟨q, xs, ds, hd, z1, z2, z3, p1⟩ := of_ownL ok k p
    refine ⟨.ref q, z1, .inl ⟨rfl, xs, .inl (.inl z2)⟩, st_seq hg ok p1 fun d v S1 H1 w1 o1 m1 p2 => ?_⟩
    obtain ⟨hl, p2⟩ := p2.gd
    exact ⟨q, xs, v, rfl, rfl, w1.h _ _ z2, by rw [z3.length]; exact hl, p2 σ S1 _ (o1.mut k hd z1 (.lst ((z3.mono w1.s).app (.one m1))))⟩
/-- x[i] = e, x an own list -/
def stoF (i : Nat) (fi f : Rho → Res D) : Rho → SR := fun r => liftS r (f r) fun d => liftS r (ownL i r) fun ds => liftS r (fi r) fun k => liftS r (asI k) fun k => match ixN ds.length k with
  | some j => .nx (r.set i (some (.lst (ds.set j d))))
  | none => .bad
theorem ds_sto (i : Nat) {x : Str} {pn : Pos} {ix : Expr} {fi : Rho → Res D} (hg : Gok c G) (k : kd G i = .o) (ho : PE X (.Name x pn) (tVar i)) (hi : PE X ix (tV c G fi)) (he : PE X e (tV c G f))
    (ha : ∀ v, assign (.Subscript (.Name x pn) ix p') X.env v = (do
      let ov ← holding [v] (eval (.Name x pn) X.env)
      let iv ← holding [v, ov] (eval ix X.env)
      standAt p'
      holding [v, ov, iv] (setItem ov iv v)
      release [v, ov, iv] []) := by intro _; rfl)
    (hs : swapsWithSole [.Subscript (.Name x pn) ix p'] e pos.line X.env = pure false := by rfl) (hw : swappedStores [.Subscript (.Name x pn) ix p'] e X.env = pure none := by rfl)
    (h1 : (assignEach [.Subscript (.Name x pn) ix p'] X.env).map (·.2) = [assign (.Subscript (.Name x pn) ix p') X.env] := by rfl) :
    PS X (.Assign [.Subscript (.Name x pn) ix p'] e pos) (sD c L G G (stoF i fi f)) :=
  ps_imp (ps_asg he (pg_sub ho hi set_list ha) hs hw h1) fun E σ H ⟨S0, H0, S, r, ok, p⟩ => st_seq hg ok p fun d v S1 H1 w1 o1 m1 p1 => by
    obtain ⟨q, xs, ds, hd, z1, z2, z3, p2⟩ := of_ownL o1 k p1
    refine ⟨.ref q, z1, st_seq hg o1 p2 fun kk u S2 H2 w2 o2 m2 p3 => ?_⟩
    cases kk with
    | int j =>
      cases m2
      dsimp only [asI, liftS] at p3
      split at p3
      · rename_i n hn
        refine ⟨q, xs, j, n, rfl, rfl, w2.h _ _ z2, by rw [z3.length]; exact hn, p3 σ S2 _ (o2.mut k hd z1 (.lst (RpA.set (Rp.mono w2.s m1) n (z3.mono w2.s))))⟩
      · exact p3.elim
    | _ => exact p3.elim
/-- what is wanted behind a target -/
def PostR (c : Cf) (S0 H0 S H : Hp) (G' : List Ow) (σ : St) (ks : List Nat) (x : Res Rho) (Q : St → Hp → Prop) : Prop := match x with
  | .ok r' => ∀ σ', wipe σ' ks = wipe σ ks → EnvOk c S0 H0 G' S H σ' r' → Q σ' H
  | _ => False
theorem wipe_get (σ : St) : ∀ (vs : List Nat) (i : Nat), (wipe σ vs)[i]? = if i ∈ vs then σ[i]?.map (fun _ => none) else σ[i]?
  | [], i => by simp [wipe]
  | v :: vs, i => by
    show ((wipe σ vs).set v none)[i]? = _
    by_cases h : v = i
    · subst h
      rw [List.getElem?_set, if_pos rfl, wipe_length, if_pos (List.mem_cons_self)]
      split
      · rename_i hl; simp [List.getElem?_eq_getElem hl]
      · rename_i hl; rw [List.getElem?_eq_none (by omega)]; rfl
    · rw [List.getElem?_set_ne h, wipe_get σ vs i]
      have : (i ∈ v :: vs) ↔ i ∈ vs := by simp [List.mem_cons, Ne.symm h]
      simp only [this]
theorem wipe_set {σ : St} {i : Nat} {x : Option V} : wipe (σ.set i x) [i] = wipe σ [i] := by
  show (σ.set i x).set i none = σ.set i none
  exact List.set_set _
theorem wipe_len {σ σ' : St} {ks : List Nat} (h : wipe σ' ks = wipe σ ks) : σ'.length = σ.length := by
  have := congrArg List.length h
  rw [wipe_length, wipe_length] at this
  exact this
theorem wipe_get_eq {σ σ' : St} {ks : List Nat} (h : wipe σ' ks = wipe σ ks) {i : Nat} (hi : i ∉ ks) : σ'[i]? = σ[i]? := by
  have := congrArg (fun l : St => l[i]?) h
  simp only [wipe_get, if_neg hi] at this
  exact this
theorem wipe_app {σ σ1 σ2 : St} {k1 k2 : List Nat} (h1 : wipe σ1 k1 = wipe σ k1) (h2 : wipe σ2 k2 = wipe σ1 k2) : wipe σ2 (k1 ++ k2) = wipe σ (k1 ++ k2) := by
  have l1 := wipe_len h1
  have l2 := wipe_len h2
  apply List.ext_getElem?
  intro i
  rw [wipe_get, wipe_get]
  by_cases hi : i ∈ k1 ++ k2
  · rw [if_pos hi, if_pos hi]
    by_cases hl : i < σ.length
    · rw [List.getElem?_eq_getElem hl, List.getElem?_eq_getElem (show i < σ2.length by omega)]; rfl
    · rw [List.getElem?_eq_none (by omega), List.getElem?_eq_none (by omega)]
  · rw [if_neg hi, if_neg hi]
    have a1 : i ∉ k1 := fun z => hi (List.mem_append_left _ z)
    have a2 : i ∉ k2 := fun z => hi (List.mem_append_right _ z)
    rw [wipe_get_eq h2 a2, wipe_get_eq h1 a1]
/-- a target by data -/
def gD (c : Cf) (G G' : List Ow) (ks : List Nat) (t : D → Rho → Res Rho) : TG := fun v σ H Q => ∃ S0 H0 S r d, EnvOk c S0 H0 G S H σ r ∧ Rp c.K c.cm S v d ∧ PostR c S0 H0 S H G' σ ks (t d r) Q
theorem pg_imp {tg : Expr} {t t' : TG} (h : PG X tg t) (k : ∀ v σ H Q, t' v σ H Q → t v σ H Q) : PG X tg t' := ⟨fun pins s σ H v u Q I r q => h.run pins s σ H v u Q I r (k v σ H Q q)⟩
theorem pgs_imp {tg : List Expr} {t t' : TGs} (h : PGs X tg t) (k : ∀ v σ H Q, t' v σ H Q → t v σ H Q) : PGs X tg t' := ⟨fun pins s σ H v u Q I r q => h.run pins s σ H v u Q I r (k v σ H Q q)⟩
def tgN (i : Nat) : D → Rho → Res Rho := fun d r => .ok (r.set i (some d))
theorem dg_name (i : Nat) {x : Str} (hN : X.N.Nodup) (hi : X.N[i]? = some x) (hx : Loc X.env.scope x) (hf : X.fn x = true ∨ X.env.scope.names.lookup x = some .local := by first | exact .inl rfl | exact .inr rfl | assumption) :
    PG X (.Name x pos) (gD c G (G.set i .v) [i] (tgN i)) := pg_imp (pg_name hN hi hx hf) fun v σ H Q ⟨S0, H0, S, r, d, ok, hv, p⟩ => p _ wipe_set (ok.setV i hv)
def gDs (c : Cf) (G G' : List Ow) (ks : List Nat) (t : List D → Rho → Res Rho) : TGs := fun vs σ H Q => ∃ S0 H0 S r ds, EnvOk c S0 H0 G S H σ r ∧ RpA c.K c.cm S vs ds ∧ PostR c S0 H0 S H G' σ ks (t ds r) Q
def tgNil : List D → Rho → Res Rho
  | [], r => .ok r
  | _ :: _, _ => .bad
def tgCons (t : D → Rho → Res Rho) (u : List D → Rho → Res Rho) : List D → Rho → Res Rho
  | [], _ => .bad
  | d :: ds, r => (t d r).bind (u ds)
theorem dg_nil : PGs X [] (gDs c G G [] tgNil) := pgs_imp pgs_nil fun vs σ H Q ⟨S0, H0, S, r, ds, ok, hv, p⟩ => by
  cases hv with
  | nil => exact ⟨rfl, p σ rfl ok⟩
  | cons _ _ => exact p.elim
theorem dg_cons {es : List Expr} {t : D → Rho → Res Rho} {u : List D → Rho → Res Rho} {k1 k2 : List Nat} (h1 : PG X e (gD c G G' k1 t)) (h2 : PGs X es (gDs c G' G'' k2 u)) (hs : (assignEach (e :: es) X.env).map (·.2) = assign e X.env :: (assignEach es X.env).map (·.2) := by rfl) :
    PGs X (e :: es) (gDs c G G'' (k1 ++ k2) (tgCons t u)) := pgs_imp (pgs_cons h1 h2 hs) fun vs σ H Q ⟨S0, H0, S, r, ds, ok, hv, p⟩ => by
  cases hv with
  | nil => exact p.elim
  | @cons v vs d ds hv hr =>
    refine ⟨v, vs, rfl, S0, H0, S, r, d, ok, hv, ?_⟩
    have p : PostR c S0 H0 S H G'' σ (k1 ++ k2) ((t d r).bind (u ds)) Q := p
    cases ht : t d r with
    | ok r1 =>
      rw [ht] at p
      intro σ1 z1 ok1
      refine ⟨S0, H0, S, r1, ds, ok1, hr, ?_⟩
      have p : PostR c S0 H0 S H G'' σ (k1 ++ k2) (u ds r1) Q := p
      cases hu : u ds r1 with
      | ok r2 => rw [hu] at p; exact fun σ2 z2 ok2 => p σ2 (wipe_app z1 z2) ok2
      | err _ _ _ => rw [hu] at p; exact p.elim
      | bad => rw [hu] at p; exact p.elim
    | err _ _ _ => rw [ht] at p; exact p.elim
    | bad => rw [ht] at p; exact p.elim
def tgT (n : Nat) (u : List D → Rho → Res Rho) : D → Rho → Res Rho := fun d r => match d with
  | .tup ds => if ds.length = n then u ds r else .bad
  | .kt ds => if ds.length = n then u ds r else .bad
  | _ => .bad
theorem dg_tup {es : List Expr} {k n : Nat} {ks : List Nat} {u : List D → Rho → Res Rho} (hc : X.calm = true) (h : PGs X es (gDs c G G' ks u)) (hn : (assignEach es X.env).length = n := by rfl) (hst : (assignEach es X.env).findIdx? (·.1) = none := by rfl) (hK : c.K = X.K := by rfl) :
    PG X (.Tuple es k pos) (gD c G G' ks (tgT n u)) := pg_imp (pg_tup hc h hn hst) fun v σ H Q ⟨S0, H0, S, r, d, ok, hv, p⟩ => by
  unfold tgT at p
  cases hv with
  | @kt a xs ds q rr =>
    dsimp only at p
    by_cases hl : ds.length = n
    · rw [if_pos hl] at p
      exact ⟨a, xs, rfl, by rw [← hK]; exact ok.ex.t q, by rw [rr.length]; exact hl, S0, H0, S, r, ds, ok, rr, p⟩
    · rw [if_neg hl] at p; exact p.elim
  | @tup a xs ds q rr =>
    dsimp only at p
    by_cases hl : ds.length = n
    · rw [if_pos hl] at p
      exact ⟨a, xs, rfl, by rw [← hK]; exact .inl (.inl (ok.ex _ _ q)), by rw [rr.length]; exact hl, S0, H0, S, r, ds, ok, rr, p⟩
    · rw [if_neg hl] at p; exact p.elim
  | _ => exact p.elim
/-- x, y = a, b -/
def parF (i j : Nat) (f1 f2 : Rho → Res D) : Rho → SR := fun r => liftS r (dCons f1 (dCons f2 dNil) r) fun ds => match ds with
  | [d, e] => .nx ((r.set i (some d)).set j (some e))
  | _ => .bad
def YOk (c : Cf) (S' : Hp) (ds : List D) (Y : Nat → Hp → V → Hp → Prop) : Prop := ∀ i S1 H1 x H2, i < ds.length → Ex S' S1 → Ex S1 H1 → Y i H1 x H2 → ∃ S2 d, Fwd S1 H1 S2 H2 ∧ ds[i]? = some d ∧ Rp c.K c.cm S2 x d
/-- the iterator J gives the data ds -/
def Gives (c : Cf) (H0 S' : Hp) (J : It) (ds : List D) : Prop := ∃ Gd Y, Walk J ds.length Gd Y ∧ (∀ S'' H'', Ex S' S'' → Ex S'' H'' → Ex H0 H'' → Gd H'') ∧ YOk c S' ds Y
def iD (c : Cf) (G : List Ow) (f : Rho → Res (List D)) : TI := fun σ H R => ∃ S0 H0 S r, EnvOk c S0 H0 G S H σ r ∧ PostG c σ S H (f r) fun ds S' H' => ∀ J, Gives c H0 S' J ds → R J H'
theorem pi_imp {tg it : Expr} {t t' : TI} (h : PI X tg it t) (k : ∀ σ H R, t' σ H R → t σ H R) : PI X tg it t' := ⟨fun pins s σ H R I q => h.run pins s σ H R I (k σ H R q)⟩
def dIt (g : D → Res (List D)) (f : Rho → Res D) : Rho → Res (List D) := fun r => (f r).bind g
theorem gives_list {c : Cf} {H0 S : Hp} {q : Addr} {xs : List V} {ds : List D} (h : SqL c.K S q xs) (rr : RpA c.K c.cm S xs ds) : Gives c H0 S (Itl c.K q) ds := by
  refine ⟨_, _, by rw [← rr.length]; exact walk_list (K := c.K) (a := q) (xs := xs), fun S'' H'' e1 e2 _ => e2.l (e1.l h), fun i S1 H1 x H2 hi e1 e2 y => ?_⟩
  obtain ⟨rfl, hx⟩ := y
  obtain ⟨d, h1, h2⟩ := rr.getV hx
  exact ⟨S1, d, Fwd.refl e2, h1, h2.mono e1⟩
variable {tg : Expr}
theorem di_list (he : PE X e (tV c G f)) (hK : c.K = X.K := by rfl) : PI X tg e (iD c G (dIt itemsL f)) := pi_imp (pi_list he) fun σ H R ⟨S0, H0, S, r, ok, p⟩ => rd_seq ok p fun d v S1 H1 w1 o1 m1 p1 => by
  rw [← hK]
  cases d with
  | lst ds =>
    cases m1 with | @lst q xs _ h rr =>
    exact ⟨q, rfl, ⟨xs, .inl (.inl (o1.ex _ _ h))⟩, p1.go o1.ex _ (gives_list (.inl (.inl h)) rr)⟩
  | fz ds =>
    cases m1 with | @fz q xs _ h rr =>
    exact ⟨q, rfl, ⟨xs, o1.ex.l h⟩, p1.go o1.ex _ (gives_list h rr)⟩
  | _ => exact p1.elim
/-- a borrowed list: a parameter's slot -/
theorem di_bor (i : Nat) {x : Str} (he : PE X (.Name x pos) (tVar i)) (k : kd G i = .b) (hK : c.K = X.K := by rfl) : PI X tg (.Name x pos) (iD c G (dIt itemsL (dVar i))) := pi_imp (pi_list he) fun σ H R ⟨S0, H0, S, r, ok, p⟩ => by
  obtain ⟨d, hd, p⟩ := of_dVar (p.unbind)
  obtain ⟨v, h1, h2⟩ := ok.slot i d hd
  rw [k] at h2
  have p1 := p.go ok.ex
  refine ⟨v, h1, ?_⟩
  rw [← hK]
  cases d with
  | lst ds =>
    rcases h2 with h2 | ⟨q, ho, rfl, h3, h4⟩
    · cases h2 with | @lst q xs _ h rr =>
      exact ⟨q, rfl, ⟨xs, .inl (.inl (ok.ex _ _ h))⟩, p1.go ok.ex _ (gives_list (.inl (.inl h)) rr)⟩
    · cases h4 with | @lst xs _ rr =>
      refine ⟨q, rfl, ⟨xs, .inl (.inl (ok.fwd.h _ _ h3))⟩, p1.go ok.ex _ ⟨_, _, by rw [← rr.length]; exact walk_list (K := c.K) (a := q) (xs := xs), fun S'' H'' e1 e2 e3 => show SqL c.K H'' q xs from .inl (.inl (e3 _ _ h3)), fun i S1 H1 x H2 hi e1 e2 y => ?_⟩⟩
      obtain ⟨rfl, hx⟩ := y
      obtain ⟨d, h1, h2⟩ := rr.getV hx
      exact ⟨S1, d, Fwd.refl e2, h1, h2.mono e1⟩
  | fz ds =>
    rcases h2 with h2 | ⟨q, ho, rfl, h3, h4⟩
    · cases h2 with | @fz q xs _ h rr =>
      exact ⟨q, rfl, ⟨xs, ok.ex.l h⟩, p1.go ok.ex _ (gives_list h rr)⟩
    · cases h4
  | _ => exact p1.elim
/-- range(n), range(a, b) -/
def rngL (lo : Int) (n : Nat) : List D := (List.range n).map fun (i : Nat) => D.int (lo + (i : Int))
theorem gives_rng {c : Cf} {H0 S : Hp} {lo : Int} {n : Nat} : Gives c H0 S (Itr lo n) (rngL lo n) := by
  have hl : (rngL lo n).length = n := by unfold rngL; simp
  refine ⟨_, _, by rw [hl]; exact walk_range, fun _ _ _ _ _ => trivial, fun i S1 H1 x H2 hi e1 e2 y => ?_⟩
  obtain ⟨rfl, rfl⟩ := y
  rw [hl] at hi
  exact ⟨S1, .int (lo + (i : Int)), Fwd.refl e2, by unfold rngL; simp [hi], .int _⟩
noncomputable def rng1 : List D → Res (List D)
  | [.int n] => guard (-4611686018427387904 ≤ n ∧ n < 4611686018427387904) (.ok (rngL 0 n.toNat))
  | _ => .bad
def dIts (g : List D → Res (List D)) (fs : Rho → Res (List D)) : Rho → Res (List D) := fun r => (fs r).bind g
theorem di_rng1 {p : Pos} {fs : Rho → Res (List D)} (hm : X.mg "range" = none) (hg : Gl X "range") (ha : PA X [a] (tAs c G fs)) (hs : starEach [a] X.env = [(false, eval a X.env)] := by rfl) : PI X tg (.Call (.Name "range" p) [a] [] pos) (iD c G (dIts rng1 fs)) :=
  pi_imp (pi_range1 hg hm ha hs) fun σ H R ⟨S0, H0, S, r, ok, p⟩ => rd_seq ok p fun ds vs S1 H1 w1 o1 m1 p1 => by
    unfold rng1 at p1
    split at p1
    · obtain ⟨hl, p1⟩ := p1.gd
      match vs, m1 with
      | _, .cons h .nil => cases h; exact ⟨_, rfl, by have := hl.1; omega, by have := hl.2; omega, p1.go o1.ex _ gives_rng⟩
    · exact p1.elim
/-- the signs of a text -/
def signs (z : Str) : List D := z.cps.toList.map fun n => .str ⟨#[n]⟩
def itemsS : D → Res (List D)
  | .str z => .ok (signs z)
  | _ => .bad
def loopF (t : D → Rho → Res Rho) (F : Rho → SR) : List D → Rho → SR
  | [], r => .nx r
  | d :: ds, r => match t d r with
    | .ok r1 => match F r1 with
      | .nx r2 => loopF t F ds r2
      | .ct r2 => loopF t F ds r2
      | .bk r2 => .nx r2
      | o => o
    | _ => .bad
def forF (its : Rho → Res (List D)) (t : D → Rho → Res Rho) (F : Rho → SR) : Rho → SR := fun r => liftS r (its r) fun ds => loopF t F ds r
theorem ds_for {iter : Expr} {body : List Stmt} {its : Rho → Res (List D)} {ks : List Nat} {t : D → Rho → Res Rho} {F : Rho → SR} (hg : Gok c G) (hp : PassesOwn (model X.prog X.w) X.A X.env X.xe) (hc : X.calm = true) (hi : PI X tg iter (iD c G its)) (ht : PG X tg (gD c G G' ks t)) (hb : PSs X body (sD c G G' G F))
    (hs : ∀ x, foldedSetIterable iter X.env x = pure x := by intro _; rfl) : PS X (.For tg iter body [] pos) (sD c L G G (forF its t F)) :=
  ps_imp (ps_for hp hc hi ht hb hs) fun E σ H ⟨S0, H0, S, r, ok, p⟩ => by
    refine ⟨S0, H0, S, r, ok, ?_⟩
    unfold forF at p
    cases hf : its r with
    | err n ns vs =>
      rw [hf] at p
      exact fun C dd S' H' fs h1 fw h2 h3 h4 => p C dd σ S' H' fs h1 (ok.fwd.trans fw) (fun g q => by rw [hg g q]; exact ok.go fw) h2 h3 h4
    | bad => rw [hf] at p; exact p.elim
    | ok ds =>
      rw [hf] at p
      intro S1 H1 w1 J ⟨Gd, Y, wk, hG, hY⟩
      have p : PostS c S0 H0 L G (loopF t F ds r) E := p
      refine for_it wk (fun i σ' H' => ∃ S' r', Ex S1 S' ∧ EnvOk c S0 H0 G S' H' σ' r' ∧ PostS c S0 H0 L G (loopF t F (ds.drop i) r') E) ⟨S1, r, Ex.refl, ok.go w1, by rw [List.drop_zero]; exact p⟩ ?_ ?_ ?_
      · rintro i σ' H' _ ⟨S', r', e1, ok', _⟩
        exact hG S' H' e1 ok'.ex ok'.fwd.h
      · rintro i x σ' H' H2 hi ⟨S', r', e1, ok', p'⟩ y
        obtain ⟨S2, d, fw, hd, hx⟩ := hY i S' H' x H2 hi e1 ok'.ex y
        have hdrop : ds.drop i = d :: ds.drop (i + 1) := by
          rw [List.drop_eq_getElem_cons hi]
          rw [List.getElem?_eq_getElem hi] at hd
          cases hd; rfl
        rw [hdrop] at p'
        unfold loopF at p'
        refine ⟨S0, H0, S2, r', d, ok'.go fw, hx, ?_⟩
        cases htt : t d r' with
        | err _ _ _ => rw [htt] at p'; exact p'.elim
        | bad => rw [htt] at p'; exact p'.elim
        | ok r1 =>
          rw [htt] at p'
          intro σ3 _ ok3
          refine ⟨S2, H0, S2, r1, ok3.rebase, ?_⟩
          dsimp only at p'
          have fin : ∀ σ4 S4 H4 r4, EnvOk c S2 H0 G S4 H4 σ4 r4 → PostS c S0 H0 L G (loopF t F (ds.drop (i + 1)) r4) E → ∃ S' r', Ex S1 S' ∧ EnvOk c S0 H0 G S' H4 σ4 r' ∧ PostS c S0 H0 L G (loopF t F (ds.drop (i + 1)) r') E := fun σ4 S4 H4 r4 e4 p4 =>
            ⟨S4, r4, (e1.trans fw.s).trans e4.fwd.s, e4.unbase ok3.fwd, p4⟩
          cases hF : F r1 with
          | nx r2 => rw [hF] at p'; exact fun σ4 S4 H4 e4 => fin σ4 S4 H4 r2 e4 p'
          | ct r2 => rw [hF] at p'; exact fun σ4 S4 H4 e4 => fin σ4 S4 H4 r2 e4 p'
          | bk r2 => rw [hF] at p'; exact fun σ4 S4 H4 e4 => p' σ4 S4 H4 (e4.unbase ok3.fwd)
          | rt d => rw [hF] at p'; exact PostS.rebase (c := c) (o := .rt d) (E := E) ok3.fwd p'
          | er r2 n ns vs => rw [hF] at p'; exact PostS.rebase (c := c) (o := .er r2 n ns vs) (E := E) ok3.fwd p'
          | bad => rw [hF] at p'; exact p'.elim
      · rintro σ' H' ⟨S', r', e1, ok', p'⟩
        rw [List.drop_length] at p'
        exact p' σ' S' H' ok'
end
end Dx
end S_DxE
section S_DxF
set_option Elab.async false
set_option linter.all false
set_option maxRecDepth 100000
set_option maxHeartbeats 2000000
namespace Dx
open PySem L2
def wipeR (r : Rho) : List Nat → Rho
  | [] => r
  | v :: vs => (wipeR r vs).set v none
theorem wipeR_len (r : Rho) : ∀ vs : List Nat, (wipeR r vs).length = r.length
  | [] => rfl
  | v :: vs => by show ((wipeR r vs).set v none).length = _; rw [List.length_set, wipeR_len r vs]
theorem wipeR_some {r : Rho} {i : Nat} {d : D} : ∀ {vs : List Nat}, (wipeR r vs)[i]? = some (some d) → r[i]? = some (some d) ∧ i ∉ vs
  | [], h => ⟨h, by simp⟩
  | v :: vs, h => by
    rcases set_some (l := wipeR r vs) h with ⟨_, e, _⟩ | ⟨ne, h⟩
    · cases e
    · obtain ⟨h1, h2⟩ := wipeR_some h
      exact ⟨h1, by simp [Ne.symm ne, h2]⟩
/-- within a comprehension nothing is raised -/
abbrev Cf.calm (c : Cf) : Cf := ⟨c.K, c.cm, fun _ _ _ _ => False, none, c.rm⟩
section
variable {X : Cx} {c : Cf} {L G G' : List Ow} {σ : St} {S0 H0 S H : Hp} {r : Rho}
theorem EnvOk.wiped (e : EnvOk c S0 H0 G S H σ r) (vs : List Nat) : EnvOk c.calm S0 H0 G S H (wipe σ vs) (wipeR r vs) := by
  refine ⟨e.fwd, by rw [wipe_length, wipeR_len, e.len], fun i d h => ?_, fun i j d d' p hi hj ki kj si sj => ?_, let ⟨A, hA⟩ := e.sto; ⟨A, hA.sub (fun a ha => (hA.out a ha).1) (fun _ _ => rfl) Ex.refl (fun i d p hi ki si => hA.own i d p (wipeR_some hi).1 ki (wipe_some si).1) fun i d ki hi => ⟨rfl, (wipeR_some hi).1, by rw [wipe_get, if_neg (wipeR_some hi).2]⟩⟩⟩
  · obtain ⟨h1, h2⟩ := wipeR_some h
    obtain ⟨v, h3, h4⟩ := e.slot i d h1
    exact ⟨v, by rw [wipe_get, if_neg h2]; exact h3, h4⟩
  · exact e.sep i j d d' p (wipeR_some hi).1 (wipeR_some hj).1 ki kj (wipe_some si).1 (wipe_some sj).1
theorem Fwd.put {S' H' : Hp} {p : Addr} {o : HO} (f : Fwd S H S' H') (n : H p = none) (ns : S' p = none) : Fwd S H S' (upd H' p o) := ⟨f.s, f.h.put n, f.sub.put ns, f.new⟩
def lcLoop (t : D → Rho → Res Rho) (tt : Rho → Res Bool) (fe : Rho → Res D) (rw : Rho) : List D → Res (List D)
  | [] => .ok []
  | d :: ds => match t d rw with
    | .ok r1 => match tt r1 with
      | .ok true => match fe r1 with
        | .ok x => match lcLoop t tt fe rw ds with
          | .ok xs => .ok (x :: xs)
          | _ => .bad
        | _ => .bad
      | .ok false => lcLoop t tt fe rw ds
      | _ => .bad
    | _ => .bad
noncomputable def dLc (its : Rho → Res (List D)) (t : D → Rho → Res Rho) (tt : Rho → Res Bool) (fe : Rho → Res D) (vs : List Nat) : Rho → Res D := fun r => (its r).bind fun ds => guard (ds.length ≤ sizeLine) (match lcLoop t tt fe (wipeR r vs) ds with
  | .ok xs => .ok (.lst xs)
  | _ => .bad)
def dYes : Rho → Res Bool := fun _ => .ok true
/-- what is walked, as long as nothing that is there changes -/
def iDl (c : Cf) (G : List Ow) (f : Rho → Res (List D)) : TI := fun σ H R => ∃ S0 H0 S r, EnvOk c S0 H0 G S H σ r ∧ PostG c σ S H (f r) fun ds S' H' => ∀ J, Gives c H' S' J ds → R J H'
theorem pi_l {tg it : Expr} {f : Rho → Res (List D)} (h : PI X tg it (iD c G f)) : PI X tg it (iDl c G f) := pi_imp h fun σ H R ⟨S0, H0, S, r, ok, p⟩ => ⟨S0, H0, S, r, ok, p.imp fun ds S' H' fw hk J gv => hk J (let ⟨Gd, Y, h1, h2, h3⟩ := gv; ⟨Gd, Y, h1, fun S'' H'' e1 e2 e3 => h2 S'' H'' e1 e2 ((ok.fwd.h.trans fw.h).trans e3), h3⟩)⟩
theorem lc_rd {its : Rho → Res (List D)} {t : D → Rho → Res Rho} {tt : Rho → Res Bool} {fe : Rho → Res D} {vs : List Nat} : ∀ σ H Q, tO c G (dLc its t tt fe vs) σ H Q →
    tLc (iDl c G its) (gD c.calm G G' vs t) (tT c.calm G' tt) (tV c.calm G' fe) vs σ H Q := fun σ H Q ⟨S0, H0, S, r, ok, p⟩ => by
  refine ⟨S0, H0, S, r, ok, p.unbind.imp fun ds S1 H1 w1 p1 J gv Dl hD => ?_⟩
  obtain ⟨hl, p1⟩ := p1.gd
  obtain ⟨Gd, Y, wk, hG, hY⟩ := gv
  have ok1 := ok.go w1
  split at p1
  · rename_i res hres
    have okw := ok1.wiped vs
    have nS : S1 Dl = none := ok1.ex.nn hD
    refine lc_it wk (fun i H' => ∃ S' acc accD rest, Fwd S1 H1 S' H' ∧ S' Dl = none ∧ H' Dl = some (.lst acc) ∧ RpA c.K c.cm S' acc accD ∧ lcLoop t tt fe (wipeR r vs) (ds.drop i) = .ok rest ∧ accD ++ rest = res ∧ accD.length ≤ i)
      ⟨S1, [], [], res, Fwd.heap ok1.ex hD, nS, upd_same, .nil, by rw [List.drop_zero]; exact hres, rfl, Nat.le_refl _⟩ ?_ ?_ ?_
    · rintro i H' _ ⟨S', acc, accD, rest, fw, _⟩
      exact hG S' H' fw.s fw.sub fw.h
    · rintro i x H' H2 hi ⟨S', acc, accD, rest, fw, n1, h1, r1, hr, ha, hn⟩ y
      obtain ⟨S2, d, fw2, hd, hx⟩ := hY i S' H' x H2 hi fw.s fw.sub y
      have hdrop : ds.drop i = d :: ds.drop (i + 1) := by
        rw [List.drop_eq_getElem_cons hi]
        rw [List.getElem?_eq_getElem hi] at hd
        cases hd; rfl
      rw [hdrop] at hr
      unfold lcLoop at hr
      refine ⟨S0, H0, S2, wipeR r vs, d, okw.go (fw.trans fw2), hx, ?_⟩
      cases ht : t d (wipeR r vs) with
      | err _ _ _ => rw [ht] at hr; cases hr
      | bad => rw [ht] at hr; cases hr
      | ok r2 =>
        rw [ht] at hr
        dsimp only at hr
        intro σ3 z3 ok3
        have hz : L2.wipe (L2.wipe σ vs) vs = L2.wipe σ vs := by
          apply List.ext_getElem?
          intro k
          rw [wipe_get, wipe_get]
          split
          · cases σ[k]? <;> rfl
          · rfl
        have keepN : ∀ S4 H4, Fwd S' H' S4 H4 → S4 Dl = none := fun S4 H4 f4 => by
          cases q : S4 Dl with
          | none => rfl
          | some u => obtain ⟨_, z⟩ := (f4.new Dl u q n1).not h1; cases z
        refine ⟨z3.trans hz, S0, H0, S2, r2, ok3, ?_⟩
        cases htt : tt r2 with
        | err _ _ _ => rw [htt] at hr; cases hr
        | bad => rw [htt] at hr; cases hr
        | ok b =>
          rw [htt] at hr
          intro S4 H4 w4 b' hb
          cases hb
          have f4 := fw2.trans w4
          cases b with
          | false =>
            dsimp only at hr
            rw [if_neg (by decide)]
            exact ⟨S4, acc, accD, rest, fw.trans f4, keepN S4 H4 f4, f4.h _ _ h1, r1.mono f4.s, hr, ha, Nat.le_succ_of_le hn⟩
          | true =>
            dsimp only at hr
            rw [if_pos rfl]
            refine ⟨S0, H0, S4, r2, ok3.go w4, ?_⟩
            cases hfe : fe r2 with
            | err _ _ _ => rw [hfe] at hr; cases hr
            | bad => rw [hfe] at hr; cases hr
            | ok x2 =>
              rw [hfe] at hr
              dsimp only at hr
              cases hlc : lcLoop t tt fe (wipeR r vs) (ds.drop (i + 1)) with
              | err _ _ _ => rw [hlc] at hr; cases hr
              | bad => rw [hlc] at hr; cases hr
              | ok xs2 =>
                rw [hlc] at hr
                cases hr
                intro S5 H5 w5 y5 hy5
                have f5 := f4.trans w5
                refine ⟨acc, f5.h _ _ h1, ?_, S5, acc ++ [y5], accD ++ [x2], xs2, (fw.trans f5).put hD (keepN S5 H5 f5), keepN S5 H5 f5, upd_same, (r1.mono f5.s).app (.one hy5), rfl, ?_, ?_⟩
                · rw [r1.length]; omega
                · rw [← ha, List.append_assoc]; rfl
                · simp; omega
    · rintro H' ⟨S', acc, accD, rest, fw, n1, h1, r1, hr, ha, hn⟩
      rw [List.drop_length] at hr
      cases hr
      rw [List.append_nil] at ha
      subst ha
      exact p1 S' H' fw _ ⟨Dl, .lst acc, rfl, w1.h.nn hD, n1, h1, .lst r1⟩
  · exact p1.elim
theorem de_lc {elt tg iter : Expr} {ifs : List Expr} {scope : Scope} {own : List (Str × Nat)} {pos : Pos} {its : Rho → Res (List D)} {t : D → Rho → Res Rho} {tt : Rho → Res Bool} {fe : Rho → Res D} (hc : X.calm = true) (hN : X.N.Nodup) (hi : PI X tg iter (iD c G its)) (ok : BlkOk X.N X.env.scope scope own)
    (hg : ∀ (s : Shared) (H : Hp) (C : Addr) (cl : List (Str × Addr)) (fp : List Addr), PG (X.blk s H scope (compEnvC scope cl C X.env) fp) tg (gD c.calm G G' (own.map (·.2)) t)) (ht : ∀ (s : Shared) (H : Hp) (C : Addr) (cl : List (Str × Addr)) (fp : List Addr), PTs (X.blk s H scope (compEnvC scope cl C X.env) fp) ifs (tT c.calm G' tt))
    (he : ∀ (s : Shared) (H : Hp) (C : Addr) (cl : List (Str × Addr)) (fp : List Addr), PE (X.blk s H scope (compEnvC scope cl C X.env) fp) elt (tV c.calm G' fe)) (hs : ∀ x, foldedSetIterable iter X.env x = pure x := by intro _; rfl) :
    PE X (.ListComp elt [⟨tg, iter, ifs, 0⟩] scope pos) (tO c G (dLc its t tt fe (own.map (·.2)))) := pe_imp (pe_lc hc hN (pi_l hi) ok hg ht he hs) lc_rd
/-- name = [..] on one line, the name a local -/
theorem ds_setLc (i : Nat) {y : Str} {py : Pos} {elt tg iter : Expr} {ifs : List Expr} {scope : Scope} {own : List (Str × Nat)} {pos spos : Pos} {its : Rho → Res (List D)} {t : D → Rho → Res Rho} {tt : Rho → Res Bool} {fe : Rho → Res D} (hgk : Gok c G) (hG : i < G.length) (hc : X.calm = true) (hN : X.N.Nodup) (hy : X.N[i]? = some y) (hyl : X.env.scope.names.lookup y = some .local)
    (hsw : swapsWith (.ListComp elt [⟨tg, iter, ifs, 0⟩] scope pos) (some (.Name y py)) spos.line X.env = pure true) (hi : PI X tg iter (iD c G its)) (ok : BlkOk X.N X.env.scope scope own)
    (hg : ∀ (s : Shared) (H : Hp) (C : Addr) (cl : List (Str × Addr)) (fp : List Addr), PG (X.blk s H scope (compEnvC scope cl C X.env) fp) tg (gD c.calm G G' (own.map (·.2)) t)) (ht : ∀ (s : Shared) (H : Hp) (C : Addr) (cl : List (Str × Addr)) (fp : List Addr), PTs (X.blk s H scope (compEnvC scope cl C X.env) fp) ifs (tT c.calm G' tt))
    (he : ∀ (s : Shared) (H : Hp) (C : Addr) (cl : List (Str × Addr)) (fp : List Addr), PE (X.blk s H scope (compEnvC scope cl C X.env) fp) elt (tV c.calm G' fe)) (hs : ∀ x, foldedSetIterable iter X.env x = pure x := by intro _; rfl) :
    PS X (.Assign [.Name y py] (.ListComp elt [⟨tg, iter, ifs, 0⟩] scope pos) spos) (sD c L G (G.set i .o) (setF i (dLc its t tt fe (own.map (·.2))))) :=
  ps_imp (ps_setLc hc hN hy hyl hsw (pi_l hi) ok hg ht he hs) fun E σ H ⟨S0, H0, S, r, ok, p⟩ => lc_rd σ H _ (st_seq hgk ok p fun d v S1 H1 w1 o1 m1 p1 => by
    obtain ⟨q, ho, rfl, n, ns, hp, h⟩ := m1
    exact p1 _ S1 H1 (ok.setO w1 i hG n ns hp h))
theorem dt_nil : PTs X [] (tT c G dYes) := ⟨fun pins s σ H Q I ⟨S0, H0, S, r, ok, p⟩ => pts_nil.run pins s σ H Q I (p.go ok.ex _ rfl)⟩
theorem dt_one {cnd : Expr} {tt : Rho → Res Bool} (h : PT X cnd (tT c G tt)) : PTs X [cnd] (tT c G tt) := pts_one h
end
/-- the mode of its result: own, or a value -/
def mR (c : Cf) (rm : Bool) : Md V D := if rm then mO c else mV c
instance {c : Cf} {rm : Bool} : Anti (mR c rm) := by
  cases rm with
  | true => exact (inferInstance : Anti (mO c))
  | false => exact (inferInstance : Anti (mV c))
/-- F by data; ms the arguments' modes; rm whether the result is a new object that nothing else holds -/
def spD (K : PySem.W.Frag) (cm : CM) (ms : List Bool) (rm : Bool) (F : List D → Res D) : Sp := fun vs H Q E => ∃ S ds, Ex S H ∧ RpM ⟨K, cm, fun _ _ _ _ => False, none, rm⟩ S H ms vs ds ∧
  PostG ⟨K, cm, fun cls d _ H => E cls d H, none, rm⟩ [] S H (F ds) fun a S' H' => ∀ b, mR ⟨K, cm, fun _ _ _ _ => False, none, rm⟩ rm H S' H' b a → Q b H'
section
variable {X : Cx} {c : Cf} {L G G' : List Ow} {k : Nat} {f : Addr} {fd : FuncData} {ps : List Str} {x : Str} {p pos : Pos} {e : Expr} {es : List Expr} {fs : Rho → Res (List D)} {ms : List Bool} {rm : Bool} {F : List D → Res D}
theorem RpM.cf {c c' : Cf} {S H : Hp} (hK : c.K = c'.K) (hm : c.cm = c'.cm) : ∀ {ms : List Bool} {vs : List V} {ds : List D}, RpM c S H ms vs ds → RpM c' S H ms vs ds
  | [], [], [], _ => trivial
  | true :: ms, v :: vs, d :: ds, h => ⟨by rw [← hK, ← hm]; exact h.1, RpM.cf hK hm h.2⟩
  | false :: ms, v :: vs, d :: ds, h => ⟨by rw [← hK, ← hm]; exact h.1, RpM.cf hK hm h.2⟩
  | [], _ :: _, _, h => h.elim
  | [], [], _ :: _, h => h.elim
  | true :: _, [], _, h => h.elim
  | true :: _, _ :: _, [], h => h.elim
  | false :: _, [], _, h => h.elim
  | false :: _, _ :: _, [], h => h.elim
theorem call_rd {E : XK} {σ : St} {S H : Hp} {vs : List V} {ds : List D} {Q : VK} (hE : ∀ cls d H, c.W cls d σ H → E cls d H) (ex : Ex S H) (m : RpM c S H ms vs ds)
    (q : PostG c σ S H (F ds) fun a S' H' => ∀ b, mR c rm H S' H' b a → Q b H') : spD c.K c.cm ms rm F vs H Q E := by
  refine ⟨S, ds, ex, RpM.cf (c := c) (c' := ⟨c.K, c.cm, fun _ _ _ _ => False, none, rm⟩) rfl rfl m, ?_⟩
  cases hF : F ds with
  | ok a =>
    rw [hF] at q
    intro S' H' w b hb
    refine q S' H' w b ?_
    cases rm with
    | true => exact hb
    | false => exact hb
  | err n ns vs => rw [hF] at q; exact fun C dd S' H' fs h1 w h2 h3 h4 => hE _ _ _ (q C dd S' H' fs h1 w h2 h3 h4)
  | bad => rw [hF] at q; exact q.elim
/-- f(e, ..), f a def of the text -/
theorem de_call (F1 : FnOk X.prog X.w X.K X.mg X.base (L2.CX X.prog X.w) k f fd ps (spD c.K c.cm ms rm F)) (tk : Takes X c.W) (hr : Room k X.A) (hg : Gl X x) (hm : X.mg x = some (.ref f)) (hk : PySem.W.keepIn X.K (.ref f) = true) (hb : Binds X.K fd ps [])
    (ha : PA X (e :: es) (tM c G ms fs)) (hdb : (x == ("__debug__" : Str)) = false := by decide) (he : starEach (e :: es) X.env = (false, eval e X.env) :: starEach es X.env := by rfl) (hpl : (backTo pos (starEach es X.env)).any (·.1) = false := by rfl) :
    PE X (.Call (.Name x p) (e :: es) [] pos) (rd c G (dCall F fs) (mR c rm)) :=
  pe_imp (pe_callSD (E := fun σ cls d H => c.W cls d σ H) F1 hr hg hm hk hb .nil (fun σ => passAt tk σ) ha hdb he hpl) fun σ H Q ⟨S0, H0, S, r, ok, q⟩ => rd_seq ok q fun ds vs S1 H1 w1 o1 m1 p1 => by
    rw [List.append_nil]
    exact call_rd (fun _ _ _ h => h) o1.ex m1 (p1.anti w1.h)
theorem de_callV (F1 : FnOk X.prog X.w X.K X.mg X.base (L2.CX X.prog X.w) k f fd ps (spD c.K c.cm ms false F)) (tk : Takes X c.W) (hr : Room k X.A) (hg : Gl X x) (hm : X.mg x = some (.ref f)) (hk : PySem.W.keepIn X.K (.ref f) = true) (hb : Binds X.K fd ps [])
    (ha : PA X (e :: es) (tM c G ms fs)) (hdb : (x == ("__debug__" : Str)) = false := by decide) (he : starEach (e :: es) X.env = (false, eval e X.env) :: starEach es X.env := by rfl) (hpl : (backTo pos (starEach es X.env)).any (·.1) = false := by rfl) :
    PE X (.Call (.Name x p) (e :: es) [] pos) (tV c G (dCall F fs)) := de_call F1 tk hr hg hm hk hb ha hdb he hpl
def startR (n : Nat) (ds : List D) : Rho := ds.map some ++ List.replicate (n - ds.length) none
def G0 (ms : List Bool) (n : Nat) : List Ow := ms.map (fun m => if m then .b else .v) ++ List.replicate (n - ms.length) .v
def runF (n : Nat) (rm : Bool) (Fb : Rho → SR) (ds : List D) : Res D := match Fb (startR n ds) with
  | .rt d => .ok d
  | .nx _ => if rm then .bad else .ok .non
  | .er _ n ns vs => .err n ns vs
  | _ => .bad
theorem RpM.get {S H : Hp} : ∀ {ms : List Bool} {vs : List V} {ds : List D} {i : Nat} {d : D}, RpM c S H ms vs ds → ds[i]? = some d → ∃ v m, vs[i]? = some v ∧ ms[i]? = some m ∧ SlotOk c H S H (if m then .b else .v) v d
  | [], [], [], _, _, _, h => by simp at h
  | true :: ms, v :: vs, d :: ds, 0, e, h, q => by simp at q; subst q; exact ⟨v, true, by simp, by simp, h.1⟩
  | false :: ms, v :: vs, d :: ds, 0, e, h, q => by simp at q; subst q; exact ⟨v, false, by simp, by simp, h.1⟩
  | true :: ms, v :: vs, d :: ds, i + 1, e, h, q => by
    obtain ⟨v, m, h1, h2, h3⟩ := RpM.get (i := i) h.2 (by simpa using q)
    exact ⟨v, m, by simpa using h1, by simpa using h2, h3⟩
  | false :: ms, v :: vs, d :: ds, i + 1, e, h, q => by
    obtain ⟨v, m, h1, h2, h3⟩ := RpM.get (i := i) h.2 (by simpa using q)
    exact ⟨v, m, by simpa using h1, by simpa using h2, h3⟩
  | [], _ :: _, _, _, _, h, _ => h.elim
  | [], [], _ :: _, _, _, h, _ => h.elim
  | true :: _, [], _, _, _, h, _ => h.elim
  | true :: _, _ :: _, [], _, _, h, _ => h.elim
  | false :: _, [], _, _, _, h, _ => h.elim
  | false :: _, _ :: _, [], _, _, h, _ => h.elim
theorem RpM.len {S H : Hp} : ∀ {ms : List Bool} {vs : List V} {ds : List D}, RpM c S H ms vs ds → vs.length = ms.length ∧ ds.length = ms.length
  | [], [], [], _ => ⟨rfl, rfl⟩
  | true :: ms, v :: vs, d :: ds, h => by have := RpM.len h.2; simp [this.1, this.2]
  | false :: ms, v :: vs, d :: ds, h => by have := RpM.len h.2; simp [this.1, this.2]
  | [], _ :: _, _, h => h.elim
  | [], [], _ :: _, h => h.elim
  | true :: _, [], _, h => h.elim
  | true :: _, _ :: _, [], h => h.elim
  | false :: _, [], _, h => h.elim
  | false :: _, _ :: _, [], h => h.elim
theorem kd_G0 {ms : List Bool} {n i : Nat} : ¬ isO (kd (G0 ms n) i) := by
  unfold kd G0
  rw [List.getD_eq_getElem?_getD, List.getElem?_append]
  split
  · rw [List.getElem?_map]
    cases ms[i]? with
    | none => intro h; cases h
    | some m => cases m <;> (intro h; cases h)
  · rw [List.getElem?_replicate]
    split <;> (intro h; cases h)
theorem kd_G0_sw {ms : List Bool} {n i : Nat} : (∀ P, kd (G0 ms n) i ≠ .s P) ∧ kd (G0 ms n) i ≠ .w := by
  unfold kd G0
  rw [List.getD_eq_getElem?_getD, List.getElem?_append]
  split
  · rw [List.getElem?_map]
    cases ms[i]? with
    | none => exact ⟨fun _ h => (by cases h), fun h => (by cases h)⟩
    | some m => cases m <;> exact ⟨fun _ h => (by cases h), fun h => (by cases h)⟩
  · rw [List.getElem?_replicate]
    split <;> exact ⟨fun _ h => (by cases h), fun h => (by cases h)⟩
theorem kd_G0_at {ms : List Bool} {n i : Nat} {m : Bool} (h : ms[i]? = some m) : kd (G0 ms n) i = if m then .b else .v := by
  unfold kd G0
  have hl : i < ms.length := (List.getElem?_eq_some_iff.mp h).1
  rw [List.getD_eq_getElem?_getD, List.getElem?_append, if_pos (by simpa using hl), List.getElem?_map, h]
  rfl
theorem startR_some {n i : Nat} {ds : List D} {d : D} (h : (startR n ds)[i]? = some (some d)) : ds[i]? = some d := by
  unfold startR at h
  rw [List.getElem?_append] at h
  split at h
  · rw [List.getElem?_map] at h
    cases q : ds[i]? with
    | none => rw [q] at h; cases h
    | some e => rw [q] at h; cases h; rfl
  · rw [List.getElem?_replicate] at h
    split at h <;> cases h
theorem env_start {N : List Str} {S H : Hp} {vs : List V} {ds : List D} (ex : Ex S H) (m : RpM c S H ms vs ds) (hn : ms.length ≤ N.length) : EnvOk c S H (G0 ms N.length) S H (L2.start N vs) (startR N.length ds) := by
  have hl := m.len
  refine ⟨Fwd.refl ex, by unfold L2.start startR; simp [hl.1, hl.2], fun i d h => ?_, fun i j d e p _ _ k _ _ _ => absurd k kd_G0, ⟨[], .nil fun _ _ _ => kd_G0_sw⟩⟩
  have hd := startR_some h
  obtain ⟨v, mm, h1, h2, h3⟩ := m.get hd
  refine ⟨v, ?_, by rw [kd_G0_at h2]; exact h3⟩
  unfold L2.start
  have hlt : i < vs.length := (List.getElem?_eq_some_iff.mp h1).1
  rw [List.getElem?_append, if_pos (by simpa using hlt), List.getElem?_map, h1]
  rfl
end
section
variable {P : Program} {w : World} {K : PySem.W.Frag} {mg : Str → Option Value} {base : Heap} {cm : CM}
abbrev cfE (K : PySem.W.Frag) (cm : CM) (rm : Bool) (E : XK) : Cf := ⟨K, cm, fun cls d _ H => E cls d H, none, rm⟩
/-- THE RULE for a def: its body by data -/
theorem dok {x qual : Str} {st : Stmt} {f : Addr} {fd : FuncData} {N ps : List Str} {k : Nat} {ms : List Bool} {rm : Bool} {G' : List Ow} {Fb : Rho → SR} (F : Fun K x qual st f fd) (S : FnScope N ps (defScope st)) (hm : ms.length = ps.length) (hn : ps.length ≤ N.length)
    (hb : ∀ (cdv : Value) (A : Around) (outer : List Env) (s : Shared) (H : Hp) (E : XK), Room k (A.deeper (PyProof.Rows.envOfC qual (defScope st) s.heap.objs.size f cdv)) →
      PSs (cxOf (L2.CX P w) P w K mg base N qual (defScope st) f cdv A outer s H E) (defBody st) (sD (cfE K cm rm E) [] (G0 ms N.length) G' Fb)) :
    FnOk P w K mg base (L2.CX P w) (k + 1) f fd ps (spD K cm ms rm (runF N.length rm Fb)) := by
  refine F.okX S (fun vs H Q E h => ?_) (fun cdv A outer s H vs Q E hr h => ?_)
  · obtain ⟨S, ds, _, m, _⟩ := h
    rw [m.len.1, hm]
  · obtain ⟨S, ds, ex, m, q⟩ := h
    refine ⟨_, hb cdv A outer s H E hr, S, H, S, startR N.length ds, env_start ex (RpM.cf (c := ⟨K, cm, fun _ _ _ _ => False, none, rm⟩) (c' := cfE K cm rm E) rfl rfl m) (by omega), ?_⟩
    unfold runF at q
    cases hF : Fb (startR N.length ds) with
    | rt d =>
      rw [hF] at q
      show PostS _ _ _ _ _ (.rt d) _
      unfold PostS
      dsimp only
      cases rm with
      | true => exact fun p ho S' H' fw n ns hp hh => q S' H' fw _ ⟨p, ho, rfl, n, ns, hp, hh⟩
      | false => exact fun v S' H' fw hv => q S' H' fw v hv
    | nx r =>
      rw [hF] at q
      cases rm with
      | true => exact q.elim
      | false => exact fun σ' S' H' ok => q S' H' ok.fwd _ Rp.non
    | er r n ns vs =>
      rw [hF] at q
      exact fun C dd σ' S' H' fs h1 fw _ h2 h3 h4 => q C dd S' H' fs h1 fw h2 h3 h4
    | bk r => rw [hF] at q; exact q.elim
    | ct r => rw [hF] at q; exact q.elim
    | bad => rw [hF] at q; exact q.elim
end
end Dx
end S_DxF
section S_DxG
set_option Elab.async false
set_option linter.all false
set_option maxRecDepth 100000
set_option maxHeartbeats 2000000
namespace Dx
open PySem L2
section
variable {X : Cx} {c : Cf} {L G G' : List Ow}
def spX1 (K : PySem.W.Frag) (C : Addr) (f : Str) : Sp := fun vs H Q _ => ∃ (a : Addr) (w : V), vs = [.ref a, w] ∧ OexC K C ∧ PySem.W.findIn K (.ref C) f = some none ∧ H a = some (exo a C none) ∧
  ∀ d, H d = none → d ≠ a → Q .non (upd (upd H d (exd d [(f, w)])) a (exo a C (some d)))
theorem xinit1 {P : Program} {w : World} {K : PySem.W.Frag} {mg : Str → Option Value} {base : Heap} {qual : Str} {st : Stmt} {fI C : Addr} {fd : FuncData} {N ps : List Str} {fl : Str} (F : Fun K "__init__" qual st fI fd) (S : FnScope N ps (defScope st)) (hl : ps.length = 2) (hN : N.length = 2)
    (hb : ∀ (cdv : Value) (A : Around) (outer : List Env) (s : Shared) (H : Hp) (E : XK), PSs (cxOf (L2.CX P w) P w K mg base N qual (defScope st) fI cdv A outer s H E) (defBody st) (tOst K fl (tVar 0) (tVar 1))) :
    FnOk P w K mg base (L2.CX P w) 1 fI fd ps (spX1 K C fl) := by
  refine F.okX (k := 0) S (fun vs H Q E h => ?_) (fun cdv A outer s H vs Q E hr h => ?_)
  · obtain ⟨a, w, rfl, _⟩ := h; exact hl.symm
  · obtain ⟨a, w', rfl, T, hno, ha, q⟩ := h
    refine ⟨_, hb cdv A outer s H E, ?_⟩
    have e : L2.start N [.ref a, w'] = [some (.ref a), some w'] := by unfold L2.start; rw [hN]; rfl
    rw [e]
    exact ⟨w', rfl, .ref a, rfl, a, C, rfl, T, hno, .inl ⟨ha, q⟩⟩
def raiF (n : Str) (ns : List Str) (rev : Bool) (fs : Rho → Res (List D)) : Rho → SR := fun r => liftS r (fs r) fun ds => if ds.length = ns.length then .er r n ns (if rev then ds.reverse else ds) else .bad
variable {e e2 : Expr} {fs : Rho → Res (List D)} {x n : Str} {C fI : Addr} {fd : FuncData} {ps : List Str} {p p' pos : Pos} {fl gl : Str}
theorem heap_x1 {H1 : Hp} {a d C : Addr} {o1 o2 o3 o4 o : HO} (ha : H1 a = none) (hne : d ≠ a) : upd (del (upd (upd (upd H1 a o1) d o2) a o3) a) d o = upd H1 d o := by
  funext b
  by_cases hb : b = d
  · subst hb; rw [upd_same, upd_same]
  · rw [upd_ne hb, upd_ne hb]
    by_cases hba : b = a
    · subst hba; rw [del_same, ha]
    · rw [del_ne hba, upd_ne hba, upd_ne hb, upd_ne hba]
theorem ds_raise1 (hg : Gok c G) (hcn : c.cm n = some C) (hc : X.calm = true) (tk : Takes X c.W) (T : OexC X.K C) (iC : PySem.W.findIn X.K (.ref C) "__init__" = some (some (.ref fI))) (tI : PySem.W.typeIn X.K (.ref fI) = some (.type "function")) (hno : PySem.W.findIn X.K (.ref C) fl = some none)
    (F1 : FnOk X.prog X.w X.K X.mg X.base (L2.CX X.prog X.w) 1 fI fd ps (spX1 X.K C fl)) (hr : Room 2 X.A) (hb : Binds X.K fd ps []) (hgx : Gl X x) (hm : X.mg x = some (.ref C)) (ha : PA X [e] (tAs c G fs))
    (hdb : (x == ("__debug__" : Str)) = false := by decide) (he : starEach [e] X.env = (false, eval e X.env) :: starEach [] X.env := by rfl) :
    PS X (.Raise (some (.Call (.Name x p) [e] [] p')) none pos) (sD c L G G' (raiF n [fl] false fs)) :=
  ps_imp (ps_raise hc tk (pmk_oex T iC tI F1 hr hb .nil passL hgx hm ha hdb he rfl)) fun E σ H ⟨S0, H0, S, r, ok, q⟩ => st_seq hg ok q fun ds vs S1 H1 w1 o1 m1 p1 => by
    obtain ⟨hl, p1⟩ := p1.ite
    match ds, vs, m1, hl with
    | [d1], [v1], .cons hv .nil, _ =>
      refine ⟨by show 1 ≤ 1000; decide, fun a na => ⟨a, v1, rfl, T, hno, upd_same, fun d hd hne => ⟨rfl, d, [(fl, v1)], upd_same, by rw [upd_ne hne, upd_same], by rw [upd_ne hne] at hd; exact hd, ?_⟩⟩⟩
      rw [upd_ne hne] at hd
      rw [heap_x1 (C := C) (o4 := .lst []) na hne]
      exact p1 C d σ (upd S1 d (.xd [(fl, v1)])) _ [(fl, v1)] hcn (o1.fwd.trans (Fwd.both o1.ex hd)) (fun g hgg => by rw [hg g hgg]; exact o1.go (Fwd.both o1.ex hd)) upd_same rfl (.cons (hv.mono (Ex.new (o1.ex.nn hd))) .nil)
def unsetS (i : Nat) : SR → SR
  | .nx r => .nx (r.set i none)
  | .bk r => .bk (r.set i none)
  | .ct r => .ct (r.set i none)
  | .er _ _ _ _ => .bad
  | o => o
def tryF (isM : Str → Option Bool) (i : Nat) (Fb Fs : Rho → SR) : Rho → SR := fun r => match Fb r with
  | .er r' n ns vs => match isM n with
    | some true => unsetS i (Fs (r'.set i (some (.obj n ns vs))))
    | some false => .er r' n ns vs
    | none => .bad
  | o => o
theorem EnvOk.unset {S0 H0 S H : Hp} {σ : St} {r : Rho} (e : EnvOk c S0 H0 G S H σ r) (i : Nat) : EnvOk c S0 H0 (G.set i .v) S H (σ.set i none) (r.set i none) := by
  refine ⟨e.fwd, by simp [e.len], fun j d h => ?_, fun j k d d' p hj hk kj kk sj sk => ?_, let ⟨A, hA⟩ := e.sto; ⟨A, hA.sub (fun a ha => (hA.out a ha).1) (fun _ _ => rfl) Ex.refl (fun j d p hj kj sj => ?_) fun j d kj hj => ?_⟩⟩
  · rcases set_some h with ⟨_, z, _⟩ | ⟨ne, h⟩
    · cases z
    · obtain ⟨v, h1, h2⟩ := e.slot j d h
      exact ⟨v, by rw [List.getElem?_set_ne ne]; exact h1, by rw [kd_set_ne ne]; exact h2⟩
  · rcases set_some hj with ⟨_, z, _⟩ | ⟨nj, hj⟩
    · cases z
    · rcases set_some hk with ⟨_, z, _⟩ | ⟨nk, hk⟩
      · cases z
      · rw [kd_set_ne nj] at kj
        rw [kd_set_ne nk] at kk
        rw [List.getElem?_set_ne nj] at sj
        rw [List.getElem?_set_ne nk] at sk
        exact e.sep j k d d' p hj hk kj kk sj sk
  · rcases set_some hj with ⟨_, z, _⟩ | ⟨nj, hj⟩
    · cases z
    · rw [kd_set_ne nj] at kj
      rw [List.getElem?_set_ne nj] at sj
      exact hA.own j d p hj kj sj
  · rcases set_some hj with ⟨_, z, _⟩ | ⟨nj, hj⟩
    · cases z
    · rw [kd_set_ne nj, List.getElem?_set_ne nj]
      exact ⟨rfl, hj, rfl⟩
/-- the slot of a caught exception -/
theorem EnvOk.setX {c' : Cf} {S0 H0 S H : Hp} {σ : St} {r : Rho} {a C dd : Addr} {n : Str} {ns : List Str} {vs : List D} {fs : List (Str × V)} (e : EnvOk c S0 H0 G S H σ r) (hK : c'.K = c.K) (hcm : c'.cm = c.cm) (i : Nat) (hi : i < G.length) (h1 : c.cm n = some C) (h2 : S dd = some (.xd fs)) (h3 : ns = fs.map (·.1)) (h4 : RpA c.K c.cm S (fs.map (·.2)) vs) :
    EnvOk c' S0 H0 (G.set i (.x a C dd)) S H (σ.set i (some (.ref a))) (r.set i (some (.obj n ns vs))) := by
  have sl : ∀ k v d, SlotOk c H0 S H k v d → SlotOk c' H0 S H k v d := fun k v d h => by
    cases k with
    | v => unfold SlotOk at h ⊢; rw [hK, hcm]; exact h
    | o => unfold SlotOk at h ⊢; rw [hK, hcm]; exact h
    | b => unfold SlotOk at h ⊢; rw [hK, hcm]; exact h
    | s P => exact h
    | w => exact h
    | x a C dd => unfold SlotOk at h ⊢; rw [hK, hcm]; exact h
    | i a => unfold SlotOk at h ⊢; rw [hK, hcm]; exact h
  have sto' : ∃ A, StoOk c'.K c'.cm H0 (G.set i (.x a C dd)) S H (σ.set i (some (.ref a))) (r.set i (some (.obj n ns vs))) A := by
    obtain ⟨A, hA⟩ := e.sto
    rw [hK, hcm]
    refine ⟨A, hA.sub (fun a ha => (hA.out a ha).1) (fun _ _ => rfl) Ex.refl (fun j d p hj kj sj => ?_) fun j d kj hj => ?_⟩
    · have nj : i ≠ j := fun z => by subst z; rw [kd_set_o hi] at kj; cases kj
      rw [List.getElem?_set_ne nj] at hj sj
      rw [kd_set_ne nj] at kj
      exact hA.own j d p hj kj sj
    · have nj : i ≠ j := fun z => by subst z; rw [kd_set_o hi] at kj; rcases kj with ⟨_, kj⟩ | kj <;> cases kj
      rw [List.getElem?_set_ne nj] at hj
      rw [kd_set_ne nj, List.getElem?_set_ne nj]
      exact ⟨rfl, hj, rfl⟩
  refine ⟨e.fwd, by simp [e.len], fun j d h => ?_, fun j k d d' p hj hk kj kk sj sk => ?_, sto'⟩
  · rcases set_some h with ⟨rfl, z, hl⟩ | ⟨ne, h⟩
    · cases z
      refine ⟨.ref a, by rw [List.getElem?_set_self (by rw [e.len]; exact hl)], ?_⟩
      rw [kd_set_o hi]
      exact ⟨rfl, n, ns, vs, fs, rfl, by rw [hcm]; exact h1, h2, h3, by rw [hK, hcm]; exact h4⟩
    · obtain ⟨v, q1, q2⟩ := e.slot j d h
      exact ⟨v, by rw [List.getElem?_set_ne ne]; exact q1, by rw [kd_set_ne ne]; exact sl _ _ _ q2⟩
  · have nj : i ≠ j := fun z => by subst z; rw [kd_set_o hi] at kj; cases kj
    have nk : i ≠ k := fun z => by subst z; rw [kd_set_o hi] at kk; cases kk
    rw [List.getElem?_set_ne nj] at hj sj
    rw [List.getElem?_set_ne nk] at hk sk
    rw [kd_set_ne nj] at kj
    rw [kd_set_ne nk] at kk
    exact e.sep j k d d' p hj hk kj kk sj sk
/-- the kinds told ahead; what they are is the same whatever the wishes -/
theorem EnvOk.cf {c' : Cf} {S0 H0 S H : Hp} {σ : St} {r : Rho} (e : EnvOk c S0 H0 G S H σ r) (hK : c'.K = c.K) (hcm : c'.cm = c.cm) : EnvOk c' S0 H0 G S H σ r := by
  refine ⟨e.fwd, e.len, fun j d h => ?_, e.sep, by rw [hK, hcm]; exact e.sto⟩
  obtain ⟨v, q1, q2⟩ := e.slot j d h
  refine ⟨v, q1, ?_⟩
  cases kj : kd G j with
  | v => rw [kj] at q2; unfold SlotOk at q2 ⊢; rw [hK, hcm]; exact q2
  | o => rw [kj] at q2; unfold SlotOk at q2 ⊢; rw [hK, hcm]; exact q2
  | b => rw [kj] at q2; unfold SlotOk at q2 ⊢; rw [hK, hcm]; exact q2
  | s P => rw [kj] at q2; exact q2
  | w => rw [kj] at q2; exact q2
  | x a C dd => rw [kj] at q2; unfold SlotOk at q2 ⊢; rw [hK, hcm]; exact q2
  | i a => rw [kj] at q2; unfold SlotOk at q2 ⊢; rw [hK, hcm]; exact q2
abbrev Cf.try (c : Cf) (W : WX) (G : List Ow) : Cf := ⟨c.K, c.cm, W, some G, c.rm⟩
theorem ds_try {nm xn : Str} {cv : Value} {i : Nat} {body suite : List Stmt} {b0 : Stmt} {np p1 : Pos} {isM : Str → Option Bool} {Fb Fs : Rho → SR} {Gs : List Ow} (hge : Gok c G) (hs : X.stack = X.env :: X.outer) (hf : X.env.frame = some X.env.locals) (hN : X.N.Nodup) (hi : X.N[i]? = some nm) (hln : X.env.kindOf nm = some .local) (hc : Names X xn cv) (tk : Takes X c.W)
    (hG : i < G.length) (hM : ∀ n C b, c.cm n = some C → isM n = some b → PySem.W.exmOne X.K (.ref C) cv = some b)
    (hb : ∀ (W : WX) (pn : List (Addr × Obj)) (xe : Value → Shared → Prop), Takes (X.tr pn xe) W → PassesOwn (model X.prog X.w) X.A X.env xe → PSs (X.tr pn xe) body (sD (c.try W G) L G G' Fb))
    (hsu : ∀ (a C dd : Addr) (oe : Obj) (pn : List (Addr × Obj)), (∃ n, c.cm n = some C ∧ isM n = some true) → Zc (.ref C) (some dd) oe → (∃ vs, oe.data = .fields vs) → PSs (X.suite a ((a, oe) :: pn)) (b0 :: suite) (sD c.calm (L.set i (.x a C dd)) (G.set i (.x a C dd)) (Gs.set i (.x a C dd)) Fs))
    (hGs : Gs.set i .v = G') (hL : L.set i .v = L) :
    PS X (.Try body [.ExceptHandler (some (.Name xn np)) (some nm) (b0 :: suite) p1] [] [] pos) (sD c L G G' (tryF isM i Fb Fs)) := by
  refine ps_imp (ps_try_as (tb := fun W => sD (c.try W G) L G G' Fb) (ts := fun a cls d => fun E σ H => ∃ C dd, cls = .ref C ∧ d = some dd ∧ (∃ n, c.cm n = some C ∧ isM n = some true) ∧ sD c.calm (L.set i (.x a C dd)) (G.set i (.x a C dd)) (Gs.set i (.x a C dd)) Fs E σ H) hs hf hN hi hln hc tk hb ?_) ?_
  · intro a oe cls d pn hz hff
    refine ⟨fun pins s σ H E I ⟨C, dd, hC, hd, hin, q⟩ => ?_⟩
    subst hC hd
    exact (hsu a C dd oe pn hin hz hff).run pins s σ H E I q
  · rintro E σ H ⟨S0, H0, S, r, ok, p⟩
    refine ⟨S0, H0, S, r, ok.cf rfl rfl, ?_⟩
    unfold tryF at p
    cases hF : Fb r with
    | nx r' => rw [hF] at p; exact fun σ' S' H' e => p σ' S' H' (e.cf rfl rfl)
    | rt d => rw [hF] at p; exact p
    | bk r' => rw [hF] at p; exact fun σ' S' H' e => p σ' S' H' (e.cf rfl rfl)
    | ct r' => rw [hF] at p; exact fun σ' S' H' e => p σ' S' H' (e.cf rfl rfl)
    | bad => rw [hF] at p; exact p.elim
    | er r' n ns vs =>
      rw [hF] at p
      intro C dd σ' S' H' fs h1 fw h2 h3 h4 h5
      have e1 : EnvOk (c.try _ G) S0 H0 G S' H' σ' r' := h2 G rfl
      dsimp only at p
      cases hI : isM n with
      | none => rw [hI] at p; exact p.elim
      | some b =>
        rw [hI] at p
        refine ⟨b, hM n C b h1 hI, fun hb1 a ha => ?_, fun hb0 => ?_⟩
        · subst hb1
          refine ⟨C, dd, rfl, rfl, ⟨n, h1, hI⟩, S0, H0, S', _, e1.setX (c' := c.calm) (a := a) rfl rfl i hG h1 h3 h4 h5, ?_⟩
          have p : PostS c S0 H0 L G' (unsetS i (Fs (r'.set i (some (.obj n ns vs))))) E := p
          cases hS : Fs (r'.set i (some (.obj n ns vs))) with
          | nx r2 =>
            rw [hS] at p
            intro σ2 S2 H2 e2
            have := (EnvOk.cf (c' := c) e2 rfl rfl).unset i
            rw [List.set_set, hGs] at this
            exact p _ S2 H2 this
          | rt d => rw [hS] at p; exact p
          | bk r2 =>
            rw [hS] at p
            intro σ2 S2 H2 e2
            have := (EnvOk.cf (c' := c) e2 rfl rfl).unset i
            rw [List.set_set, hL] at this
            exact p _ S2 H2 this
          | ct r2 =>
            rw [hS] at p
            intro σ2 S2 H2 e2
            have := (EnvOk.cf (c' := c) e2 rfl rfl).unset i
            rw [List.set_set, hL] at this
            exact p _ S2 H2 this
          | er _ _ _ _ => rw [hS] at p; exact p.elim
          | bad => rw [hS] at p; exact p.elim
        · subst hb0
          exact p C dd σ' S' H' fs h1 fw (fun g hg => by rw [hge g hg]; exact EnvOk.cf (c' := c) e1 rfl rfl) h3 h4 h5
def lookF (ns : List Str) (vs : List D) (f : Str) : Option D := (ns.zip vs).lookup f
def dXf (i : Nat) (f : Str) : Rho → Res D := fun r => match r[i]? with
  | some (some (.obj _ ns vs)) => match lookF ns vs f with
    | some d => .ok d
    | none => .bad
  | _ => .bad
theorem look_rp {K : PySem.W.Frag} {cm : CM} {S : Hp} {f : Str} {d : D} : ∀ {fs : List (Str × V)} {vs : List D}, RpA K cm S (fs.map (·.2)) vs → lookF (fs.map (·.1)) vs f = some d → ∃ v, fs.lookup f = some v ∧ Rp K cm S v d
  | [], vs, h, q => by cases h; cases q
  | (g, u) :: fs, _, h, q => by
    cases h with | @cons _ _ d' ds hu hr =>
    unfold lookF at q
    rw [List.map_cons, List.zip_cons_cons, List.lookup_cons] at q
    rw [List.lookup_cons]
    by_cases hfg : (f == g) = true
    · rw [hfg] at q ⊢; cases q; exact ⟨u, rfl, hu⟩
    · have : (f == g) = false := by simpa using hfg
      rw [this] at q ⊢
      exact look_rp hr q
theorem de_xf {a C dd : Addr} {oe : Obj} {pn : List (Addr × Obj)} {i : Nat} {nm f : Str} {pn' : Pos} (T : XfC X.K C) (hno : PySem.W.findIn X.K (.ref C) f = some none) (k : kd G i = .x a C dd)
    (hz : Zc (.ref C) (some dd) oe) (hf : ∃ vs, oe.data = .fields vs) (he : PE (X.suite a ((a, oe) :: pn)) (.Name nm pn') (tVar i)) (hb : attributeBase (.Name nm pn') f X.env (eval (.Name nm pn') X.env) = eval (.Name nm pn') X.env := by rfl) :
    PE (X.suite a ((a, oe) :: pn)) (.Attribute (.Name nm pn') f pos) (tV c G (dXf i f)) := pe_imp (pe_xf T hno hz hf he hb) fun σ H Q ⟨S0, H0, S, r, ok, p⟩ => by
  unfold dXf at p
  split at p
  · rename_i n ns vs hr
    obtain ⟨v, h1, h2⟩ := ok.slot i _ hr
    rw [k] at h2
    obtain ⟨rfl, n', ns', ds', fs, z1, z2, z3, z4, z5⟩ := h2
    cases z1
    split at p
    · rename_i d hd
      rw [z4] at hd
      obtain ⟨u, q1, q2⟩ := look_rp z5 hd
      exact ⟨.ref a, h1, rfl, rfl, dd, fs, u, rfl, ok.ex _ _ z3, q1, p.here ok.ex q2⟩
    · exact p.elim
  · exact p.elim
/-- isinstance(e, c), e the exception that the suite holds -/
def rIsX (K : PySem.W.Frag) (C a dd : Addr) : List V → Hp → VK → Prop := fun xs H Q => ∃ (c : V) (cv : Value) (b : Bool) (fs : List (Str × V)), xs = [.ref a, c] ∧ (∀ u, RelV c u → u = cv) ∧ H dd = some (.xd fs) ∧ PySem.W.kitOne K (.ref C) cv = some b ∧ Q (.bl b) H
theorem call_isX {a C dd : Addr} {oe : Obj} {pn : List (Addr × Obj)} (T : ExcC X.K C) (hz : Zc (.ref C) (some dd) oe) (hf : ∃ vs, oe.data = .fields vs) : CallR (X.suite a ((a, oe) :: pn)) (.builtin "isinstance") (rIsX X.K C a dd) := by
  intro pins s σ H xs us Q I r h
  obtain ⟨cc, cv, b, fs, rfl, hcv, hdd, hk, q⟩ := h
  match us, r with
  | [u1, u2], .cons rx (.cons rt .nil) =>
    cases rx
    have ec := hcv _ rt
    subst ec
    have hpin := (I.pin (a, oe) (List.mem_append_left _ List.mem_cons_self)).1
    obtain ⟨vs, hv⟩ := hf
    have hx : ObjOk X.prog X.w H s.heap dd (.xd fs) := I.hok dd _ hdd
    obtain ⟨mA, hns, _⟩ := hx
    obtain ⟨od, ho, _⟩ := lookIn_ns hns
    have J : PySem.W.InstAt s.heap a oe C (some od) := ⟨hpin, hz.1, by unfold PySem.W.notCls; rw [hv], by rw [hz.2]; exact ho⟩
    have hcl : (PySem.W.clsIn X.K C).isSome = true := by
      have h1 := T.hd
      unfold PySem.W.hasDictIn at h1
      cases hc : PySem.W.clsIn X.K C with
      | none => rw [hc] at h1; cases h1
      | some _ => rfl
    exact PySem.W.kia_one (PySem.W.kitx_exc hcl T.hg T.hk T.hs T.ha T.hn T.ht T.hm) I.kIn J hk (fun z => nomatch z) fun tk => ⟨.bl b, H, I.kept (t' := tk) fun _ _ z => z, rfl, q⟩
/-- isM: which of the classes that are caught are of this class -/
def dIsX (isM : Str → Option Bool) (i : Nat) : Rho → Res D := fun r => match r[i]? with
  | some (some (.obj n _ _)) => match isM n with
    | some b => .ok (.bl b)
    | none => .bad
  | _ => .bad
theorem de_isX {a C dd : Addr} {oe : Obj} {pn : List (Addr × Obj)} {i : Nat} {nm xc : Str} {pn' pc : Pos} {isM : Str → Option Bool} {v : V} {cv : Value} (k : kd G i = .x a C dd) (T : ExcC X.K C) (hz : Zc (.ref C) (some dd) oe) (hf : ∃ vs, oe.data = .fields vs)
    (hcv : ∀ u, RelV v u → u = cv) (hM : ∀ n b, c.cm n = some C → isM n = some b → PySem.W.kitOne X.K (.ref C) cv = some b)
    (hm : X.mg "isinstance" = none) (hg : Gl X "isinstance") (hv : PE (X.suite a ((a, oe) :: pn)) (.Name nm pn') (tVar i)) (hT : PE (X.suite a ((a, oe) :: pn)) (.Name xc pc) (tC v))
    (hs1 : starEach [.Name nm pn', .Name xc pc] X.env = (false, eval (.Name nm pn') X.env) :: starEach [.Name xc pc] X.env := by rfl) (hs2 : starEach [.Name xc pc] X.env = (false, eval (.Name xc pc) X.env) :: starEach [] X.env := by rfl) (hpl : (backTo pos (starEach [.Name xc pc] X.env)).any (·.1) = false := by rfl) :
    PE (X.suite a ((a, oe) :: pn)) (.Call (.Name "isinstance" p) [.Name nm pn', .Name xc pc] [] pos) (tV c G (dIsX isM i)) := by
  refine pe_imp (pe_callB (call_isX T hz hf) hg hm (by decide +kernel) (pa_cons hv (pa_cons hT pa_nil hs2) hs1) (he := hs1) (hpl := hpl)) fun σ H Q ⟨S0, H0, S, r, ok, p⟩ => ?_
  unfold dIsX at p
  split at p
  · rename_i n ns vs hr
    obtain ⟨v', h1, h2⟩ := ok.slot i _ hr
    rw [k] at h2
    obtain ⟨rfl, n', ns', ds', fs, z1, z2, z3, z4, z5⟩ := h2
    cases z1
    split at p
    · rename_i b hb
      exact ⟨.ref a, h1, v, cv, b, fs, rfl, hcv, ok.ex _ _ z3, hM n b z2 hb, p.here ok.ex (.bl _)⟩
    · exact p.elim
  · exact p.elim
end
end Dx
end S_DxG
section S_DxT
set_option Elab.async false
set_option linter.all false
set_option maxRecDepth 100000
set_option maxHeartbeats 2000000
namespace Dx
open PySem L2
theorem gok0 {K : PySem.W.Frag} {cm : CM} {rm : Bool} {E : XK} {G : List Ow} : Gok (cfE K cm rm E) G := fun _ h => nomatch h
theorem gokC {c : Cf} {G : List Ow} : Gok c.calm G := fun _ h => nomatch h
theorem gokT {c : Cf} {W : WX} {G : List Ow} : Gok (c.try W G) G := fun _ h => (Option.some.inj h).symm
theorem hu65 {k : Nat} {A : Around} (hr : Room k A) : A.units + 65 < cLine := by have := hr.un; omega
theorem fnok_bad {P : Program} {w : World} {K : PySem.W.Frag} {mg : Str → Option Value} {base : Heap} {CX : CXT} {k : Nat} {f : Addr} {fd : FuncData} {ps : List Str} {cm : CM} {ms : List Bool} {rm : Bool} : FnOk P w K mg base CX k f fd ps (spD K cm ms rm fun _ => .bad) :=
  ⟨fun _ _ _ _ ⟨_, _, _, _, h⟩ => h.elim, fun _ _ _ _ _ _ _ _ _ _ _ _ _ ⟨_, _, _, _, h⟩ => h.elim⟩
theorem ints_rp {K : PySem.W.Frag} {cm : CM} {S : Hp} : ∀ ns : List Int, RpA K cm S (ns.map V.int) (ns.map D.int)
  | [] => .nil
  | n :: ns => .cons (.int n) (ints_rp ns)
theorem law_sp {K : PySem.W.Frag} {cm : CM} {F : List D → Res D} {ns : List Int} {H : Hp} {a : Addr} {Q : VK} {E : XK} (h : F [.fz (ns.map D.int)] = .ok (.bl true)) (hS : SqL K H a (ns.map V.int)) (k : ∀ H', Q (.bl true) H') : spD K cm [false] false F [.ref a] H Q E :=
  ⟨H, [.fz (ns.map D.int)], Ex.refl, ⟨.fz hS (ints_rp ns), trivial⟩, by
    rw [h]
    intro S' H' w b hb
    cases hb
    exact k H'⟩
theorem cx_never {P : Program} {w : World} {outer : List Env} {H : Hp} {s s' : Shared} {e : Value} (h : L2.CX P w outer H s (fun _ _ _ => False) e s') : False := by
  obtain ⟨_, _, _, _, _, _, _, _, _, _, _, _, hf⟩ := h
  exact hf
section
variable {X : Cx} {c : Cf} {L G G' : List Ow} {f f1 f2 : Rho → Res D} {o e : Expr} {pos apos : Pos}
def asS : D → Res Str
  | .str s => .ok s
  | _ => .bad
def MtS (c : Cf) (R : Md V D) (r : V → List V → Hp → VK → Prop) (g : D → D → Res D) : Prop := ∀ (σ : St) (S H : Hp) (x y : V) (d e : D) (Q : VK), Ex S H → RpB c.K c.cm S H x d → RpB c.K c.cm S H y e →
  PostG c σ S H (g d e) (fun a S' H' => ∀ b, R H S' H' b a → Q b H') → r x [y] H Q
def dStr (g : D → D → Res D) (f1 f2 : Rho → Res D) : Rho → Res D := fun r => (f1 r).bind fun x => (asS x).bind fun _ => (f2 r).bind fun y => g x y
theorem de_m1 {R : Md V D} [Anti R] {id : String} {name : Str} {r : V → List V → Hp → VK → Prop} {g : D → D → Res D} (slot : Slot "str" name id) (ty : typeOf (.builtin id) = pure (.type "method_descriptor")) (rule : MtR X id r) (hs : MtS c R r g) (ho : PE X o (tR c G f1)) (he : PE X e (tR c G f2))
    (hst : starEach [e] X.env = [(false, eval e X.env)] := by rfl) (hbase : attributeBase o name X.env (eval o X.env) = eval o X.env := by rfl) (hline : (apos.endLine == pos.line) = true := by rfl) :
    PE X (.Call (.Attribute o name apos) [e] [] pos) (rd c G (dStr g f1 f2) R) := pe_imp (pe_m1 slot ty rule ho he hst hbase hline) fun σ H Q ⟨S0, H0, S, r, ok, p⟩ => rd_seq ok p fun x v S1 H1 w1 o1 m1 p1 => by
  cases x with
  | str z =>
    have hv := RpB.str m1
    exact ⟨⟨z, hv⟩, rd_seq o1 (show PostG c σ S1 H1 ((f2 r).bind fun y => g (.str z) y) _ from p1) fun y u S2 H2 w2 o2 m2 p2 => hs σ S2 H2 v u (.str z) y Q o2.ex (RpB.mono m1 w2.s w2.h) m2 (p2.anti (w1.h.trans w2.h))⟩
  | _ => exact p1.elim
def strsD (zs : List Str) : List D := zs.map .str
theorem strs_rp {K : PySem.W.Frag} {cm : CM} {S : Hp} : ∀ zs : List Str, RpA K cm S (zs.map V.str) (strsD zs)
  | [] => .nil
  | z :: zs => .cons (.str z) (strs_rp zs)
noncomputable def splitD : D → D → Res D
  | .str a, .str b => guard ((b.length == 0) = false ∧ a.length + 2 ≤ sizeLine) (.ok (.lst (strsD (Txt.split a b))))
  | _, _ => .bad
theorem ms_split : MtS c (mO c) (fun x xs H Q => ∃ a b, x = .str a ∧ xs = [.str b] ∧ (b.length == 0) = false ∧ a.length + 2 ≤ sizeLine ∧ rNewStrs (Txt.split a b) H Q) splitD := by
  intro σ S H x y d e Q ex hx hy p
  unfold splitD at p
  split at p
  · obtain ⟨hl, p⟩ := p.gd
    cases hx.str; cases hy.str
    exact ⟨_, _, rfl, rfl, hl.1, hl.2, fun q hq => p.kept ex hq (.lst (strs_rp _))⟩
  · exact p.elim
def startD : D → D → Res D
  | .str a, .str b => .ok (.bl (Txt.startswith a b))
  | _, _ => .bad
def endD : D → D → Res D
  | .str a, .str b => .ok (.bl (Txt.endswith a b))
  | _, _ => .bad
theorem ms_end : MtS c (mV c) (fun x xs H Q => ∃ a b, x = .str a ∧ xs = [.str b] ∧ Q (.bl (Txt.endswith a b)) H) endD := by
  intro σ S H x y d e Q ex hx hy p
  unfold endD at p
  split at p
  · cases hx.str; cases hy.str; exact ⟨_, _, rfl, rfl, p.here ex (.bl _)⟩
  · exact p.elim
def findD : D → D → Res D
  | .str a, .str b => .ok (.int (Txt.find a b))
  | _, _ => .bad
theorem ms_find : MtS c (mV c) (fun x xs H Q => ∃ a b, x = .str a ∧ xs = [.str b] ∧ Q (.int (Txt.find a b)) H) findD := by
  intro σ S H x y d e Q ex hx hy p
  unfold findD at p
  split at p
  · cases hx.str; cases hy.str; exact ⟨_, _, rfl, rfl, p.here ex (.int _)⟩
  · exact p.elim
/-- the texts of a list or a tuple -/
def allStr : List D → Option (List Str)
  | [] => some []
  | .str z :: ds => (allStr ds).map (z :: ·)
  | _ :: _ => none
theorem allStr_rp {K : PySem.W.Frag} {cm : CM} {S : Hp} : ∀ {ds : List D} {vs : List V} {zs : List Str}, RpA K cm S vs ds → allStr ds = some zs → vs = zs.map V.str
  | [], _, _, h, q => by cases h; cases q; rfl
  | d :: ds, _, _, h, q => by
    cases h with | cons hd hr =>
    cases d with
    | str z =>
      rw [allStr] at q
      obtain ⟨zs, h1, rfl⟩ := Option.map_eq_some_iff.mp q
      cases hd
      rw [allStr_rp hr h1]; rfl
    | _ => cases q
noncomputable def joinZ (a : Str) : Option (List Str) → Res D
  | some zs => guard ((zs.map (·.length)).sum + zs.length * a.length ≤ 16777216) (.ok (.str (Txt.join a zs)))
  | none => .bad
noncomputable def joinD : D → D → Res D
  | .str a, d => (items d).bind fun ds => joinZ a (allStr ds)
  | _, _ => .bad
theorem ms_join (hK : c.K = X.K := by rfl) : MtS c (mV c) (fun x xs H Q => ∃ a p, ∃ ys : List Str, x = .str a ∧ xs = [.ref p] ∧ (SqL X.K H p (ys.map V.str) ∨ SqT X.K H p (ys.map V.str)) ∧
    (ys.map (·.length)).sum + ys.length * a.length ≤ 16777216 ∧ Q (.str (Txt.join a ys)) H) joinD := by
  intro σ S H x y d e Q ex hx hy p
  cases d with
  | str a =>
    cases hx.str
    have fin : ∀ ds, items e = .ok ds → ∃ zs, allStr ds = some zs ∧ (zs.map (·.length)).sum + zs.length * a.length ≤ 16777216 ∧ Q (.str (Txt.join a zs)) H := fun ds hds => by
      replace p : PostG c σ S H ((items e).bind fun ds => joinZ a (allStr ds)) (fun a S' H' => ∀ b, mV c H S' H' b a → Q b H') := p
      rw [hds] at p
      replace p : PostG c σ S H (joinZ a (allStr ds)) (fun a S' H' => ∀ b, mV c H S' H' b a → Q b H') := p
      cases hz : allStr ds with
      | none => rw [hz] at p; exact p.elim
      | some zs =>
        rw [hz] at p
        obtain ⟨hl, p⟩ := p.gd
        exact ⟨zs, rfl, hl, p.here ex (.str _)⟩
    rw [← hK]
    cases e with
    | lst ds =>
      obtain ⟨q, xs, rfl, a1, r1⟩ := hy.list ex
      obtain ⟨zs, h1, h2, h3⟩ := fin ds rfl
      have := allStr_rp r1 h1; subst this
      exact ⟨a, q, zs, rfl, rfl, .inl (.inl (.inl a1)), h2, h3⟩
    | fz ds =>
      obtain ⟨q, xs, rfl, a1, r1⟩ := hy.fz ex
      obtain ⟨zs, h1, h2, h3⟩ := fin ds rfl
      have := allStr_rp r1 h1; subst this
      exact ⟨a, q, zs, rfl, rfl, .inl a1, h2, h3⟩
    | tup ds =>
      obtain ⟨q, xs, rfl, a1, r1, s1⟩ := hy.tup ex
      obtain ⟨zs, h1, h2, h3⟩ := fin ds rfl
      have := allStr_rp r1 h1; subst this
      exact ⟨a, q, zs, rfl, rfl, .inr a1, h2, h3⟩
    | _ => exact p.elim
  | _ => exact p.elim
noncomputable def ordX : D → Res D
  | .str x => guard (x.length = 1) (.ok (.int (x.cps.getD 0 0 : Nat)))
  | _ => .bad
noncomputable def fmtD : D → Res D
  | .str y => guard (y.length ≤ sizeLine) (.ok (.str y))
  | .int i => guard (i.natAbs.log2 < 1920) (.ok (.str (toString i)))
  | _ => .bad
def dJnil : Str → Rho → Res D := fun acc _ => .ok (.str acc)
noncomputable def dJcons (f : Rho → Res D) (g : Str → Rho → Res D) : Str → Rho → Res D := fun acc r => (f r).bind fun d => (asS d).bind fun y => guard ((acc ++ y).length ≤ sizeLine) (g (acc ++ y) r)
def dJoin (g : Str → Rho → Res D) : Rho → Res D := g Str.empty
noncomputable def truB : D → Res Bool
  | .non => .ok false
  | .bl b => .ok b
  | .int i => .ok (i != 0)
  | .str y => guard (y.length ≤ sizeLine) (.ok ((y.length : Int) != 0))
  | .lst ds => .ok (!ds.isEmpty)
  | .fz ds => .ok (!ds.isEmpty)
  | .tup ds => .ok (!ds.isEmpty)
  | _ => .bad
noncomputable def dTru (f : Rho → Res D) : Rho → Res Bool := fun r => (f r).bind truB
theorem RpA.empty {K : PySem.W.Frag} {cm : CM} {S : Hp} {vs : List V} {ds : List D} (h : RpA K cm S vs ds) : (!ds.isEmpty) = !vs.isEmpty := by cases h <;> rfl
theorem dt_tru (he : PE X e (tR c G f)) (hw : ∀ whole, isTrue e X.env whole = (do let v ← whole; standAt e.pos; holding [v] (truthy v))) (hK : c.K = X.K := by rfl) : PT X e (tT c G (dTru f)) :=
  pt_imp (pt_truth he hw) fun σ H Q ⟨S0, H0, S, r, ok, p⟩ => rd_seq ok p fun d v S1 H1 w1 o1 m1 p1 => by
    rw [← hK]
    cases d with
    | non => cases RpB.non m1; exact ⟨_, rfl, p1.go o1.ex _ rfl⟩
    | bl b => cases RpB.bl m1; exact ⟨_, rfl, p1.go o1.ex _ rfl⟩
    | int i => cases RpB.int m1; exact ⟨_, rfl, p1.go o1.ex _ rfl⟩
    | str y =>
      cases RpB.str m1
      obtain ⟨hl, p1⟩ := p1.gd
      exact ⟨_, ⟨hl, rfl⟩, p1.go o1.ex _ rfl⟩
    | lst ds => obtain ⟨q, xs, rfl, a1, r1⟩ := RpB.list m1 o1.ex; exact ⟨_, .inl ⟨xs, .inl (.inl a1), r1.empty⟩, p1.go o1.ex _ rfl⟩
    | fz ds => obtain ⟨q, xs, rfl, a1, r1⟩ := RpB.fz m1 o1.ex; exact ⟨_, .inl ⟨xs, a1, r1.empty⟩, p1.go o1.ex _ rfl⟩
    | tup ds => obtain ⟨q, xs, rfl, a1, r1, s1⟩ := RpB.tup m1 o1.ex; exact ⟨_, .inr (.inl ⟨xs, a1, r1.empty⟩), p1.go o1.ex _ rfl⟩
    | _ => exact p1.elim
def augF (i : Nat) (g : D → D → Res D) (f : Rho → Res D) : Rho → SR := fun r => liftS r (dVar i r) fun x => liftS r (f r) fun y => liftS r (g x y) fun z => .nx (r.set i (some z))
end
end Dx
end S_DxT
section S_DxS
set_option Elab.async false
set_option linter.all false
set_option maxRecDepth 100000
set_option maxHeartbeats 2000000
namespace Dx
open PySem L2
/-- new own lists that stand in each other -/
def mG (c : Cf) : Md V D := fun H S' H' v d => ∃ k M A, d = .st k M ∧ A.Nodup ∧ A.length = M.length ∧ (∃ a, A[k]? = some a ∧ v = .ref a) ∧ (∀ a ∈ A, H a = none ∧ S' a = none) ∧
  ∀ (n : Nat) row, M[n]? = some row → ∃ a xs, A[n]? = some a ∧ H' a = some (.lst xs) ∧ RmA c.K c.cm A S' xs row
instance {c : Cf} : Anti (mG c) := ⟨fun e ⟨k, M, A, h1, h2, h3, h4, h5, h6⟩ => ⟨k, M, A, h1, h2, h3, h4, fun a ha => ⟨e.nn (h5 a ha).1, (h5 a ha).2⟩, h6⟩⟩
section
variable {X : Cx} {c : Cf} {L G G' : List Ow} {σ : St} {S0 H0 S H S' H' : Hp} {r : Rho}
variable {e : Expr} {pos : Pos} {f : Rho → Res D}
def isOwn : D → Bool
  | .own _ => true
  | .st _ _ => true
  | _ => false
theorem RmA.plain {A : List Addr} {xs : List V} {row : List D} (h : RmA c.K c.cm A S xs row) (hp : row.all (fun d => !isOwn d) = true) : RpA c.K c.cm S xs row := by
  obtain ⟨hl, h⟩ := h
  induction row generalizing xs with
  | nil =>
    cases xs with
    | nil => exact .nil
    | cons _ _ => cases hl
  | cons d row ih =>
    cases xs with
    | nil => cases hl
    | cons v xs =>
      rw [List.all_cons, Bool.and_eq_true] at hp
      refine .cons ?_ (ih hp.2 (by simpa using hl) fun i v d hv hd => h (i + 1) v d (by simpa using hv) (by simpa using hd))
      rcases h 0 v d rfl rfl with z | ⟨k, a, rfl, _⟩
      · exact z
      · cases hp.1
theorem RmA.atI {A : List Addr} {xs : List V} {row : List D} {j : Int} {d : D} (h : RmA c.K c.cm A S xs row) (q : L2.atI row j = some d) : ∃ v, L2.atI xs j = some v ∧ RmV c.K c.cm A S v d := by
  unfold L2.atI at q ⊢
  rw [h.1]
  cases hj : ixN row.length j with
  | none => rw [hj] at q; cases q
  | some n =>
    rw [hj] at q
    have q : row[n]? = some d := q
    have hlt : n < xs.length := by rw [h.1]; exact (List.getElem?_eq_some_iff.mp q).1
    exact ⟨xs[n], List.getElem?_eq_getElem hlt, h.2 n _ d (List.getElem?_eq_getElem hlt) q⟩
theorem RmA.set {A : List Addr} {xs : List V} {row : List D} {v : V} {d : D} (h : RmA c.K c.cm A S xs row) (hv : Rp c.K c.cm S v d) (n : Nat) : RmA c.K c.cm A S (xs.set n v) (row.set n d) := by
  refine ⟨by rw [List.length_set, List.length_set]; exact h.1, fun i u e hu he => ?_⟩
  rw [List.getElem?_set] at hu he
  split at hu
  · rename_i hni
    rw [if_pos hni] at he
    split at hu
    · cases hu
      split at he
      · cases he; exact .inl hv
      · cases he
    · cases hu
  · rename_i hni
    rw [if_neg hni] at he
    exact h.2 i u e hu he
end
end Dx
end S_DxS
section S_DxU
set_option Elab.async false
set_option linter.all false
set_option maxRecDepth 100000
set_option maxHeartbeats 2000000
namespace Dx
open PySem L2
def optL (g : D → Option D) : List D → Option (List D)
  | [] => some []
  | d :: ds => match g d, optL g ds with
    | some e, some es => some (e :: es)
    | _, _ => none
def derefD : Nat → List (List D) → D → Option D
  | _, _, .st _ _ => none
  | 0, _, .own _ => none
  | n + 1, M, .own k => match M[k]? with
    | some row => match optL (derefD n M) row with
      | some ds => some (.lst ds)
      | none => none
    | none => none
  | _, _, d => some d
section
variable {X : Cx} {c : Cf} {L G G' : List Ow} {σ : St} {S0 H0 S H S' H' : Hp} {r : Rho}
/-- all the own lists of slot i become values; the slots ws, that hold some of them, are given up -/
def pubF (n i : Nat) (ws : List Nat) : Rho → SR := fun r => match r[i]? with
  | some (some (.st k M)) => match derefD n M (.own k) with
    | some d => .nx ((wipeR r ws).set i (some d))
    | none => .bad
  | _ => .bad
end
end Dx
end S_DxU
section S_DxV
set_option Elab.async false
set_option linter.all false
set_option maxRecDepth 100000
set_option maxHeartbeats 2000000
namespace Dx
open PySem L2
/-- each item with its number -/
def numd : Nat → List D → List D
  | _, [] => []
  | n, d :: ds => .tup [.int (n : Int), d] :: numd (n + 1) ds
theorem numd_len : ∀ (ds : List D) (n : Nat), (numd n ds).length = ds.length
  | [], _ => rfl
  | d :: ds, n => by rw [numd, List.length_cons, List.length_cons, numd_len ds (n + 1)]
theorem numd_get : ∀ (ds : List D) (n i : Nat) (d : D), ds[i]? = some d → (numd n ds)[i]? = some (.tup [.int ((n + i : Nat) : Int), d])
  | [], _, _, _, h => by simp at h
  | d :: ds, n, 0, e, h => by simp at h; subst h; simp [numd]
  | d :: ds, n, i + 1, e, h => by
    have := numd_get ds (n + 1) i e (by simpa using h)
    rw [numd, List.getElem?_cons_succ, this, show n + 1 + i = n + (i + 1) by omega]
section
variable {X : Cx} {c : Cf} {G : List Ow} {f : Rho → Res D} {e : Expr} {pos : Pos}
def itemsF (d : D) : Res (List D) := match d with
  | .lst ds => .ok ds
  | .fz ds => .ok ds
  | _ => .bad
def enumL (d : D) : Res (List D) := (itemsF d).bind fun ds => .ok (numd 0 ds)
def enumT (d : D) : Res (List D) := (itemsT d).bind fun ds => .ok (numd 0 ds)
end
end Dx
end S_DxV
section S_DxW
set_option Elab.async false
set_option linter.all false
set_option maxRecDepth 100000
set_option maxHeartbeats 2000000
namespace Dx
open PySem L2 PyProof.Rows
end Dx
end S_DxW
section S_DxX
set_option Elab.async false
set_option linter.all false
set_option maxRecDepth 100000
set_option maxHeartbeats 2000000
namespace Dx
open PySem L2
section
variable {X : Cx} {c : Cf} {L G G' : List Ow} {f f1 f2 : Rho → Res D} {a b e : Expr} {pos : Pos} {tg : Expr}
/-- sum of a list of ints -/
def allInt : List D → Option (List Int)
  | [] => some []
  | .int i :: ds => match allInt ds with
    | some is => some (i :: is)
    | none => none
  | _ => none
def sumD : D → Res D
  | .lst ds => match allInt ds with
    | some is => .ok (.int is.sum)
    | none => .bad
  | _ => .bad
end
end Dx
end S_DxX
section S_DxY
set_option Elab.async false
set_option linter.all false
set_option maxRecDepth 100000
set_option maxHeartbeats 2000000
namespace Dx
open PySem L2
section
variable {X : Cx} {CX : CXT} {k : Nat} {f C : Addr} {fd : FuncData} {ps : List Str} {sp : Sp} {E : St → XK} {x m : Str} {p pos apos : Pos} {e o : Expr} {es : List Expr} {ta : TE} {t : TA}
def tMakeSD (C : Addr) (sp : Sp) (dvs : List V) (E : St → XK) (t : TA) : TE := fun σ H Q => t σ H fun vs H1 => ∀ x dx, H1 x = none → H1 dx = none → dx ≠ x →
  sp (.ref x :: (vs ++ dvs)) (upd (upd H1 dx (.own x)) x (.ins C dx [])) (fun v H2 => v = .non ∧ Q (.ref x) H2) (E σ)
variable {dvs : List V} {ds : List Value}
theorem run_makeSD {pins : List (Addr × Obj)} {σ : St} {H : Hp} {s : Shared} {Q : VK} {us : List Value} {vs : List V} (M : Mk X.K C f) (F : FnOk X.prog X.w X.K X.mg X.base CX k f fd ps sp) (hr : Room (k + 1) X.A) (hb : L2.Binds X.K fd ps ds) (hd : Vals dvs ds)
    (hx : PassesAt CX X σ (E σ)) (I : Inv X pins σ H s) (r : Vals vs us)
    (h : ∀ x dx, H x = none → H dx = none → dx ≠ x → sp (.ref x :: (vs ++ dvs)) (upd (upd H dx (.own x)) x (.ins C dx [])) (fun v H2 => v = .non ∧ Q (.ref x) H2) (E σ)) :
    wpAny (model X.prog X.w) X.A (call (.ref C) us) (EP X pins σ Q) X.xe s := by
  have hq := h (s.heap.objs.size + 1) s.heap.objs.size (I.hok.fresh (Nat.le_succ _)) (I.hok.fresh (Nat.le_refl _)) (Nat.ne_of_lt (Nat.lt_succ_self _))
  have I2 := Inv.made (C := C) I
  have r2 : Vals (V.ref (s.heap.objs.size + 1) :: (vs ++ dvs)) (Value.ref (s.heap.objs.size + 1) :: (us ++ ds)) := .cons rfl (r.append hd)
  have hl : (Value.ref (s.heap.objs.size + 1) :: us ++ ds).length = ps.length := by
    have e := r2.length
    rw [F.len _ _ _ _ hq] at e
    exact e.symm
  refine wpAny_call (make_map (f := f) I.kIn M.makes M.init (beq_iff_eq.mp M.fn) (codeAny_mono (F.run _ X.stack _ _ ⟨Value.ref (s.heap.objs.size + 1) :: us, []⟩ (Value.ref (s.heap.objs.size + 1) :: (us ++ ds)) _ _ (E σ) (hr.make C us [])
    (I2.env0.make C us []) (hb _ (Value.ref (s.heap.objs.size + 1) :: us) I2.kIn hl) r2 hq) fun r s' hq' => ?_))
  cases r with
  | error e => exact hx pins _ _ e s' I2 hq'
  | ok fl =>
    cases fl with
    | ret u =>
      obtain ⟨v, H', I3, rv, ev, q3⟩ := I2.after hq'
      subst ev
      exact ⟨rv, ⟨V.ref (s.heap.objs.size + 1), H', I3, rfl, q3⟩⟩
    | next => exact False.elim hq'
    | brk => exact False.elim hq'
    | cont => exact False.elim hq'
theorem pe_makeSD (M : Mk X.K C f) (F : FnOk X.prog X.w X.K X.mg X.base CX k f fd ps sp) (hr : Room (k + 1) X.A) (hg : Gl X x) (hm : X.mg x = some (.ref C)) (hb : L2.Binds X.K fd ps ds) (hd : Vals dvs ds) (hx : ∀ σ, PassesAt CX X σ (E σ))
    (ha : PA X (e :: es) t) (hdb : (x == ("__debug__" : Str)) = false := by decide) (he : starEach (e :: es) X.env = (false, eval e X.env) :: starEach es X.env := by rfl) (hpl : (backTo pos (starEach es X.env)).any (·.1) = false := by rfl) :
    PE X (.Call (.Name x p) (e :: es) [] pos) (tMakeSD C sp dvs E t) := by
  refine ⟨fun pins s σ H Q I h => ?_⟩
  refine wpAny_Call_Name_kw (ld_glob I hg hm ?_ hdb)
  refine PySem.W.callWith_K (h₀ := X.base) I.ok.mod.kin M.kp (thn (ha.run pos pins s σ H _ I h) fun us s1 ⟨vs, H1, I1, r, q⟩ => ⟨I1.kIn, ?_⟩) he hpl
  exact run_makeSD M F hr hb hd (hx σ) I1 r q
end
section
variable {X : Cx} {c : Cf} {L G G' : List Ow} {f f1 : Rho → Res D} {e o : Expr} {es : List Expr} {pos apos p : Pos} {fs : Rho → Res (List D)}
/-- of an object of the class n, its field fl -/
def fldD (n fl : Str) : D → Res D
  | .obj c ns vs => if c = n then (match lookF ns vs fl with
    | some d => .ok d
    | none => .bad) else .bad
  | _ => .bad
theorem de_fld {n fl : Str} {C : Addr} (hcn : c.cm n = some C) (cl : Cls X.K C) (na : NoAttr X.K C fl) (he : PE X e (tR c G f)) (hb : attributeBase e fl X.env (eval e X.env) = eval e X.env := by rfl) :
    PE X (.Attribute e fl pos) (tV c G (dUn (fldD n fl) f)) := pe_imp (pe_fld he hb) fun σ H Q ⟨S0, H0, S, r, ok, p⟩ => rd_seq ok p fun d v S1 H1 w1 o1 m1 p1 => by
  cases d with
  | obj c' ns vs =>
    unfold fldD at p1
    dsimp only at p1
    split at p1
    · rename_i hc
      subst hc
      split at p1
      · rename_i d' hd
        obtain ⟨q, C', dx, fs, rfl, h1, h2, rfl, h4⟩ := RpB.obj m1 o1.ex
        rw [hcn] at h1; cases h1
        obtain ⟨v', hv, hr⟩ := look_rp h4 hd
        exact ⟨q, C, dx, fs, v', rfl, h2, cl, na, hv, p1.go o1.ex _ hr⟩
      · exact p1.elim
    · exact p1.elim
  | _ => exact p1.elim
/-- a constant of the class, by the class -/
theorem de_cval {C : Addr} {mc u : Value} {v : V} {d : D} {n fl : Str} (hg : Gl X n) (hm : X.mg n = some (.ref C)) (r : ClX.CRead X.K C mc) (kv : ClX.CVal X.K C mc fl v u) (hd : ∀ S, Rp c.K c.cm S v d)
    (hdb : (n == ("__debug__" : Str)) = false := by decide) (hb : attributeBase (.Name n p) fl X.env (eval (.Name n p) X.env) = eval (.Name n p) X.env := by rfl) : PE X (.Attribute (.Name n p) fl pos) (tV c G (dC d)) :=
  pe_imp (ClX.pe_cval (pe_glob (v := .ref C) hg hm rfl hdb) hb) fun σ H Q ⟨S0, H0, S, r', ok, p⟩ => ⟨C, mc, v, u, rfl, r, kv, p.here ok.ex (hd S)⟩
/-- the own object in slot i gets a field -/
def putN (fl : Str) (d : D) : List Str → List D → List Str × List D
  | n :: ns, v :: vs => if n = fl then (n :: ns, d :: vs) else let z := putN fl d ns vs; (n :: z.1, v :: z.2)
  | ns, vs => (ns ++ [fl], vs ++ [d])
theorem putN_rp {K : PySem.W.Frag} {cm : CM} {S : Hp} {fl : Str} {d : D} {v : V} (hv : Rp K cm S v d) : ∀ {fs : List (Str × V)} {vs : List D}, RpA K cm S (fs.map (·.2)) vs →
    (putN fl d (fs.map (·.1)) vs).1 = (putF fl v fs).map (·.1) ∧ RpA K cm S ((putF fl v fs).map (·.2)) (putN fl d (fs.map (·.1)) vs).2
  | [], vs, h => by
    cases h
    refine ⟨rfl, ?_⟩
    show RpA K cm S [v] [d]
    exact .one hv
  | (n, u) :: fs, _, h => by
    cases h with | @cons _ _ d' ds' h1 h2 =>
    obtain ⟨z1, z2⟩ := putN_rp hv h2
    by_cases hn : n = fl
    · subst hn
      have e1 : putF n v ((n, u) :: fs) = (n, v) :: fs := by unfold putF; simp
      have e2 : putN n d (((n, u) :: fs).map (·.1)) (d' :: ds') = (n :: fs.map (·.1), d :: ds') := by
        show putN n d (n :: fs.map (·.1)) (d' :: ds') = _
        unfold putN; simp
      rw [e1, e2]
      exact ⟨rfl, .cons hv h2⟩
    · have e1 : putF fl v ((n, u) :: fs) = (n, u) :: putF fl v fs := by
        conv => lhs; unfold putF
        simp [hn, Ne.symm hn]
      have e2 : putN fl d (((n, u) :: fs).map (·.1)) (d' :: ds') = (n :: (putN fl d (fs.map (·.1)) ds').1, d' :: (putN fl d (fs.map (·.1)) ds').2) := by
        show putN fl d (n :: fs.map (·.1)) (d' :: ds') = _
        conv => lhs; unfold putN
        simp [hn]
      rw [e1, e2]
      exact ⟨by simp [z1], .cons h1 z2⟩
def fstF (i : Nat) (n fl : Str) (f : Rho → Res D) : Rho → SR := fun r => liftS r (f r) fun d => match r[i]? with
  | some (some (.obj c ns vs)) => if c = n ∧ ns.length < 1000 then .nx (r.set i (some (.obj c (putN fl d ns vs).1 (putN fl d ns vs).2))) else .bad
  | _ => .bad
theorem ds_fst (i : Nat) {n fl x : Str} {C : Addr} {pn pos' : Pos} (hg : Gok c G) (hcn : c.cm n = some C) (cl : Cls X.K C) (na : NoAttr X.K C fl) (k : isO (kd G i)) (ho : PE X (.Name x pn) (tVar i)) (he : PE X e (tV c G f))
    (hs : swapsWith e (some (.Attribute (.Name x pn) fl pos')) pos.line X.env = pure false := by rfl) : PS X (.Assign [.Attribute (.Name x pn) fl pos'] e pos) (sD c L G G (fstF i n fl f)) :=
  ps_imp (ps_fld ho he hs) fun E σ H ⟨S0, H0, S, r, ok, p⟩ => st_seq hg ok p fun d v S1 H1 w1 o1 m1 p1 => by
    split at p1
    · rename_i c' ns vs hr
      split at p1
      · rename_i hc
        obtain ⟨rfl, hl⟩ := hc
        obtain ⟨q, ho', s1, s2, s3, s4, s5⟩ := o1.ownI k hr
        cases s5 with | @obj C' dx _ fs _ _ h1 h2 h3 =>
        rw [hcn] at h1; cases h1
        subst h2
        obtain ⟨z1, z2⟩ := putN_rp (fl := fl) m1 h3
        refine ⟨.ref q, s1, q, C, dx, fs, rfl, s2, cl, na, by simpa using hl, p1 σ S1 _ ?_⟩
        exact o1.mutI k hr s1 (.obj hcn z1 z2)
      · exact p1.elim
    · exact p1.elim
variable {k : Nat} {fa : Addr} {fd : FuncData} {ps : List Str} {ms : List Bool} {rm : Bool} {F : List D → Res D}
def isObj (n m : Str) : D → Res Unit
  | .obj c ns _ => if c = n ∧ m ∉ ns then .ok () else .bad
  | _ => .bad
def dMeth (n m : Str) (F : List D → Res D) (f1 : Rho → Res D) (fs : Rho → Res (List D)) : Rho → Res D := fun r => (f1 r).bind fun x => (isObj n m x).bind fun _ => (fs r).bind fun ds => F (x :: ds)
/-- what an __init__ promises: from its arguments' data to the new object's data -/
def spI (K : PySem.W.Frag) (cm : CM) (C : Addr) (ms : List Bool) (F : List D → Res D) : Sp := fun vs H Q E => ∃ x dx H1 S us ds, vs = .ref x :: us ∧ H1 x = none ∧ H1 dx = none ∧ dx ≠ x ∧ H = upd (upd H1 dx (.own x)) x (.ins C dx []) ∧ Ex S H1 ∧
  RpM ⟨K, cm, fun _ _ _ _ => False, none, true⟩ S H1 ms us ds ∧
  PostG ⟨K, cm, fun cls d _ H => E cls d H, none, true⟩ [] S H1 (F ds) fun a S' H' => (∃ ho, S' x = none ∧ H' x = some ho ∧ RpO K cm S' ho a) → Q .non H'
theorem make_rd {E : XK} {σ : St} {S H : Hp} {vs : List V} {ds : List D} {Q : VK} {C x dx : Addr} (hE : ∀ cls d H, c.W cls d σ H → E cls d H) (ex : Ex S H) (m : RpM c S H ms vs ds) (hx : H x = none) (hdx : H dx = none) (hne : dx ≠ x)
    (q : PostG c σ S H (F ds) fun a S' H' => ∀ b, mO c H S' H' b a → Q b H') : spI c.K c.cm C ms F (.ref x :: vs) (upd (upd H dx (.own x)) x (.ins C dx [])) (fun v H2 => v = .non ∧ Q (.ref x) H2) E := by
  refine ⟨x, dx, H, S, vs, ds, rfl, hx, hdx, hne, rfl, ex, RpM.cf (c := c) (c' := ⟨c.K, c.cm, fun _ _ _ _ => False, none, true⟩) rfl rfl m, ?_⟩
  cases hF : F ds with
  | ok a =>
    rw [hF] at q
    intro S' H' w ⟨ho, h1, h2, h3⟩
    exact ⟨rfl, q S' H' w _ ⟨x, ho, rfl, hx, h1, h2, h3⟩⟩
  | err n ns vs => rw [hF] at q; exact fun C dd S' H' fs h1 w h2 h3 h4 => hE _ _ _ (q C dd S' H' fs h1 w h2 h3 h4)
  | bad => rw [hF] at q; exact q.elim
theorem de_make {x : Str} {C : Addr} (M : Mk X.K C fa) (F1 : FnOk X.prog X.w X.K X.mg X.base (L2.CX X.prog X.w) k fa fd ps (spI c.K c.cm C ms F)) (tk : Takes X c.W) (hr : Room (k + 1) X.A) (hg : Gl X x) (hm : X.mg x = some (.ref C)) (hb : L2.Binds X.K fd ps [])
    (ha : PA X (e :: es) (tM c G ms fs)) (hdb : (x == ("__debug__" : Str)) = false := by decide) (he : starEach (e :: es) X.env = (false, eval e X.env) :: starEach es X.env := by rfl) (hpl : (backTo pos (starEach es X.env)).any (·.1) = false := by rfl) :
    PE X (.Call (.Name x p) (e :: es) [] pos) (tO c G (dCall F fs)) :=
  pe_imp (pe_makeSD (dvs := []) (E := fun σ cls d H => c.W cls d σ H) M F1 hr hg hm hb .nil (fun σ => passAt tk σ) ha hdb he hpl) fun σ H Q ⟨S0, H0, S, r, ok, q⟩ => rd_seq ok q fun ds vs S1 H1 w1 o1 m1 p1 => fun x dx hx hdx hne => by
    rw [List.append_nil]
    exact make_rd (fun _ _ _ h => h) o1.ex m1 hx hdx hne (p1.anti w1.h)
end
def startI (n : Nat) (cls : Str) (ds : List D) : Rho := some (.obj cls [] []) :: ds.map some ++ List.replicate (n - (ds.length + 1)) none
def GI (x : Addr) (ms : List Bool) (n : Nat) : List Ow := .i x :: ms.map (fun m => if m then .b else .v) ++ List.replicate (n - (ms.length + 1)) .v
def runI (n : Nat) (cls : Str) (Fb : Rho → SR) (ds : List D) : Res D := match Fb (startI n cls ds) with
  | .nx r => (match r[0]? with
    | some (some d) => .ok d
    | _ => .bad)
  | .er _ n ns vs => .err n ns vs
  | _ => .bad
theorem kd_GI_succ {x : Addr} {ms : List Bool} {n i : Nat} : kd (GI x ms n) (i + 1) = kd (G0 ms (n - 1)) i := by
  unfold kd GI G0
  rw [List.getD_eq_getElem?_getD, List.getD_eq_getElem?_getD]
  simp [Nat.sub_sub, Nat.add_comm]
theorem startI_succ {n i : Nat} {cls : Str} {ds : List D} : (startI n cls ds)[i + 1]? = (startR (n - 1) ds)[i]? := by
  unfold startI startR
  simp [Nat.sub_sub, Nat.add_comm]
section
variable {P : Program} {w : World} {K : PySem.W.Frag} {mg : Str → Option Value} {base : Heap} {cm : CM}
theorem env_startI {c : Cf} {N : List Str} {S H1 : Hp} {us : List V} {ds : List D} {ms : List Bool} {x dx C : Addr} {n : Str} (hcn : c.cm n = some C) (ex : Ex S H1) (m : RpM c S H1 ms us ds) (hn : ms.length + 1 ≤ N.length) (hx : H1 x = none) (hdx : H1 dx = none) (hne : dx ≠ x) :
    EnvOk c S H1 (GI x ms N.length) S (upd (upd H1 dx (.own x)) x (.ins C dx [])) (L2.start N (.ref x :: us)) (startI N.length n ds) := by
  have hl := m.len
  have hx1 : (upd H1 dx (.own x)) x = none := by rw [upd_ne (Ne.symm hne)]; exact hx
  have e1 : Ex H1 (upd (upd H1 dx (.own x)) x (.ins C dx [])) := (Ex.new hdx).trans (Ex.new hx1)
  have fw : Fwd S H1 S (upd (upd H1 dx (.own x)) x (.ins C dx [])) := ⟨Ex.refl, e1, ex.trans e1, fun a o h n => by rw [n] at h; cases h⟩
  refine ⟨fw, by unfold L2.start startI; simp [hl.1, hl.2], fun i d h => ?_, fun i j d e p hi hj ki kj si sj => ?_, ⟨[], .nil fun i d hi => ?_⟩⟩
  · cases i with
    | zero =>
      have h : some (some (D.obj n [] [])) = some (some d) := h
      cases h
      refine ⟨.ref x, by unfold L2.start; simp, ?_⟩
      show SlotOk c H1 S _ (.i x) (.ref x) _
      exact ⟨rfl, x, _, rfl, upd_same, ex.nn hx, hx, .obj hcn rfl .nil⟩
    | succ i =>
      rw [startI_succ] at h
      have hd := startR_some h
      obtain ⟨v, mm, h1, h2, h3⟩ := m.get hd
      refine ⟨v, ?_, ?_⟩
      · unfold L2.start
        have hlt : i < us.length := (List.getElem?_eq_some_iff.mp h1).1
        rw [List.getElem?_append, if_pos (by simpa using hlt)]
        simp [h1]
      · rw [kd_GI_succ, kd_G0_at h2]
        cases mm with
        | true => exact h3
        | false => exact h3
  · cases i with
    | succ i => rw [kd_GI_succ] at ki; exact absurd ki kd_G0
    | zero => cases j with
      | zero => rfl
      | succ j => rw [kd_GI_succ] at kj; exact absurd kj kd_G0
  · cases i with
    | zero => exact ⟨fun _ h => (by cases h), fun h => (by cases h)⟩
    | succ i => rw [kd_GI_succ]; exact kd_G0_sw
/-- THE RULE for an __init__ -/
theorem dokI {x qual : Str} {st : Stmt} {f C : Addr} {fd : FuncData} {N ps : List Str} {k : Nat} {ms : List Bool} {n : Str} {Fb : Rho → SR} (F : Fun K x qual st f fd) (S : FnScope N ps (defScope st)) (hcn : cm n = some C) (hm : ms.length + 1 = ps.length) (hn : ps.length ≤ N.length)
    {G' : Addr → List Ow} (hG : ∀ a, kd (G' a) 0 = .i a)
    (hb : ∀ (cdv : Value) (A : Around) (outer : List Env) (s : Shared) (H : Hp) (E : XK) (a : Addr), Room k (A.deeper (PyProof.Rows.envOfC qual (defScope st) s.heap.objs.size f cdv)) →
      PSs (cxOf (L2.CX P w) P w K mg base N qual (defScope st) f cdv A outer s H E) (defBody st) (sD (cfE K cm false E) [] (GI a ms N.length) (G' a) Fb)) :
    FnOk P w K mg base (L2.CX P w) (k + 1) f fd ps (spI K cm C ms (runI N.length n Fb)) := by
  refine F.okX S (fun vs H Q E h => ?_) (fun cdv A outer s H vs Q E hr h => ?_)
  · obtain ⟨x, dx, H1, S, us, ds, rfl, _, _, _, _, _, m, _⟩ := h
    rw [List.length_cons, m.len.1, hm]
  · obtain ⟨x, dx, H1, S, us, ds, rfl, hx, hdx, hne, rfl, ex, m, q⟩ := h
    refine ⟨_, hb cdv A outer s _ E x hr, S, H1, S, startI N.length n ds, env_startI (c := cfE K cm false E) hcn ex (RpM.cf (c := ⟨K, cm, fun _ _ _ _ => False, none, true⟩) (c' := cfE K cm false E) rfl rfl m) (by omega) hx hdx hne, ?_⟩
    unfold runI at q
    cases hF : Fb (startI N.length n ds) with
    | rt d => rw [hF] at q; exact q.elim
    | nx r =>
      rw [hF] at q
      dsimp only at q
      intro σ' S' H' ok
      split at q
      · rename_i d hd
        obtain ⟨v, h1, h2⟩ := ok.slot 0 d hd
        rw [hG x] at h2
        obtain ⟨rfl, p, ho, e1, e2, e3, e4, e5⟩ := h2
        cases e1
        exact q S' H' ok.fwd ⟨ho, e3, e2, e5⟩
      · exact q.elim
    | er r n ns vs =>
      rw [hF] at q
      exact fun C dd σ' S' H' fs h1 fw _ h2 h3 h4 => q C dd S' H' fs h1 fw h2 h3 h4
    | bk r => rw [hF] at q; exact q.elim
    | ct r => rw [hF] at q; exact q.elim
    | bad => rw [hF] at q; exact q.elim
end
end Dx
end S_DxY
section S_DxZ
set_option Elab.async false
set_option linter.all false
set_option maxRecDepth 100000
set_option maxHeartbeats 2000000
namespace Dx
open PySem L2
def IteS (z : Str) : It := ⟨fun i _ => i < z.cps.size, fun i H v H' => ∃ T n, v = .ref T ∧ H T = none ∧ H' = upd H T (.tup [.int (i : Nat), .str ⟨#[n]⟩]) ∧ z.cps[i]? = some n, fun i _ => z.cps.size ≤ i⟩
theorem turn_enS {P : Program} {w : World} {K : PySem.W.Frag} {elts : List Expr} {kk : Nat} {tpos : Pos} (z : Str) (t : Tok) (e it : Addr) :
    Turn P w K (.Tuple elts kk tpos) (IteS z) [e, it] e (fun i h => (∃ old, IsEnum h e it ((i : Nat) : Int) old) ∧ h.IsStrIter it (strIterType z) z t i ∧ e ≠ it ∧ i ≤ z.cps.size) where
  mem := by simp
  obj := fun i h st b hb => by
    obtain ⟨⟨old, he⟩, ⟨o, ho, hc, hd⟩, _⟩ := st
    have e' : b = e ∨ b = it := by simpa using hb
    rcases e' with z | z
    · rw [z]; exact ⟨_, he, fun v q => nomatch q⟩
    · rw [z]; exact ⟨o, ho, fun v q => by rw [hd] at q; cases q⟩
  keep := fun i h h' st k => let ⟨⟨old, he⟩, ⟨o, ho, r⟩, hne, hle⟩ := st; ⟨⟨old, k e (by simp) _ he⟩, ⟨o, k it (by simp) o ho, r⟩, hne, hle⟩
  item := by
    intro X hP hw hK hc i pins s σ H E I hf st hg
    subst hP hw hK
    obtain ⟨⟨old, he⟩, hit, hne, hle⟩ := st
    have hel : e < s.heap.objs.size := Heap.lt_size he
    have hil : it < s.heap.objs.size := by obtain ⟨_, q, _⟩ := hit; exact Heap.lt_size q
    have dr : Draws X.prog X.w X.A.in1 it [it] z.cps.size (fun i v => ∃ c u, z.cps[i]? = some c ∧ v = .str ⟨#[c]⟩ u) (fun i h => h.IsStrIter it (strIterType z) z t i) := Draws.text (show X.A.in1.handled = none from I.ok.hd hc) it z t
    have hea : e ∉ [it] := by simp [hne]
    refine wpAny_pyNext_enum_itemD dr he hit hg hne hea fun u h' tk hu' ho hst hT hsz hk => ?_
    obtain ⟨n, tu, hn, rfl⟩ := hu'
    refine ⟨_, rfl, wpAny_letOwnedTupleGo_enum (s := { s with heap := h', toks := tk + 1 }) ho fun h'' he' sb => ?_⟩
    have hT2 : h''.get? s.heap.objs.size = some { cls := .type "tuple", data := .seq #[.int i tk, .str ⟨#[n]⟩ tu] } := (sb.2 _ (Nat.ne_of_gt hel)).trans hT
    have new : ObjOk X.prog X.w (upd H s.heap.objs.size (.tup [.int (i : Nat), .str ⟨#[n]⟩])) h'' s.heap.objs.size (.tup [.int (i : Nat), .str ⟨#[n]⟩]) :=
      ⟨by show 2 ≤ sizeLine; decide, [.int i tk, .str ⟨#[n]⟩ tu], .cons ⟨_, rfl⟩ (.cons ⟨_, rfl⟩ .nil), ⟨_, hT2, rfl, _, rfl⟩⟩
    have I1 : Inv X pins σ (upd H s.heap.objs.size (.tup [.int (i : Nat), .str ⟨#[n]⟩])) { s with heap := h'', toks := tk + 1 } :=
      I.turnedNew (ch := [e, it]) (fun b ob hb q => (sb.2 b (fun z => hb (by simp [z]))).trans (hk b ob (fun z => hb (by simp [z])) (fun z => hb (by simp [z])) q)) hf (Nat.le_refl _) new
    refine ⟨.ref s.heap.objs.size, _, I1, rfl, ⟨_, n, rfl, I.hok.fresh (Nat.le_refl _), rfl, hn⟩, ⟨⟨.str ⟨#[n]⟩ tu, ?_⟩, ?_, hne, hg⟩, fun b hb => ?_⟩
    · have e1 : ((i + 1 : Nat) : Int) = (i : Int) + 1 := by omega
      rw [e1]; exact he'
    · obtain ⟨o, q1, q2⟩ := hst
      exact ⟨o, (sb.2 it (Ne.symm hne)).trans q1, q2⟩
    · have hb' : b < s.heap.objs.size := by
        have e' : b = e ∨ b = it := by simpa using hb
        rcases e' with z | z
        · rw [z]; exact hel
        · rw [z]; exact hil
      rw [upd_ne (Nat.ne_of_lt hb')]
      exact (hf b hb).1
  done := by
    intro X hP hw hK hc i pins s σ H E I hf st hg
    subst hP hw hK
    obtain ⟨⟨old, he⟩, hit, hne, hle⟩ := st
    obtain ⟨f0, f1, f2, f3, f4, f5⟩ := hf it (by simp)
    have hi : i = z.cps.size := Nat.le_antisymm hle hg
    subst hi
    have dr : Draws X.prog X.w X.A.in1 it [it] z.cps.size (fun i v => ∃ c u, z.cps[i]? = some c ∧ v = .str ⟨#[c]⟩ u) (fun i h => h.IsStrIter it (strIterType z) z t i) := Draws.text (show X.A.in1.handled = none from I.ok.hd hc) it z t
    exact wpAny_pyNext_enum_endD dr he hit fun h' eb => ⟨rfl, I.turned (t' := s.toks) (fun b o hb q => eb b o hb q) f0 f1 f3 f4 f5⟩
  self := fun A i s Q E st h => let ⟨⟨_, he⟩, _⟩ := st; wpAny_pyIter_enum he h
def iEnS (ta : TA) : TI := fun σ H R => ta σ H fun vs H1 => ∃ z, vs = [.str z] ∧ R (IteS z) H1
theorem pi_enS {X : Cx} {e : Expr} {ta : TA} {p pos tpos : Pos} {elts : List Expr} {kk : Nat} (hg : Gl X "enumerate") (hm : X.mg "enumerate" = none) (ha : PA X [e] ta) (hs : starEach [e] X.env = [(false, eval e X.env)] := by rfl) :
    PI X (.Tuple elts kk tpos) (.Call (.Name "enumerate" p) [e] [] pos) (iEnS ta) := by
  refine ⟨fun pins s σ H R I h => ?_⟩
  refine PyProof.Rows.Call_ (ld_blt I hg hm PyProof.Rows.boot_enumerate (PyProof.Rows.callWith_type1 (thn (ha.run pos pins s σ H _ I h) fun us s1 ⟨vs, H1, I1, r1, q1⟩ => ?_) hs rfl))
  obtain ⟨z, ex, q⟩ := q1
  subst ex
  cases r1 with
  | cons r rr =>
    cases rr
    obtain ⟨t, rfl⟩ := r
    refine call_enumerate_str fun h' he hit hsz hk => wpAny_pyIter_enum he ?_
    have I2 : Inv X pins σ H1 { s1 with heap := h' } := I1.kept (t' := s1.toks) hk
    refine ⟨s1.heap.objs.size + 1, [s1.heap.objs.size + 1, s1.heap.objs.size], _, _, H1, rfl, I2, turn_enS z t (s1.heap.objs.size + 1) s1.heap.objs.size, ⟨⟨.none, he⟩, hit, Nat.succ_ne_self _, Nat.zero_le _⟩, fun b hb => ?_, q⟩
    have e' : b = s1.heap.objs.size + 1 ∨ b = s1.heap.objs.size := by simpa using hb
    have hle : s1.heap.objs.size ≤ b := by
      rcases e' with z | z
      · rw [z]; exact Nat.le_add_right _ _
      · rw [z]; exact Nat.le_refl _
    exact I1.fpOk hle (I1.hok.fresh hle)
theorem walk_enS {z : Str} : Walk (IteS z) z.cps.size (fun _ => True) (YPair (fun i => some (.int (i : Nat))) (fun i => (z.cps[i]?).map fun n => .str ⟨#[n]⟩)) := by
  refine ⟨fun i _ hi _ => hi, fun _ _ => Nat.le_refl _, fun i H v H' _ _ y => ?_⟩
  obtain ⟨T, n, h1, h2, h3, h4⟩ := y
  exact ⟨T, .int (i : Nat), .str ⟨#[n]⟩, h1, h2, h3, rfl, by show Option.map _ z.cps[i]? = _; rw [h4]; rfl⟩
section
variable {X : Cx} {c : Cf} {L G G' : List Ow} {f f1 f2 : Rho → Res D} {e e2 : Expr} {pos apos p : Pos} {fs : Rho → Res (List D)}
def enumS (d : D) : Res (List D) := (itemsS d).bind fun ds => .ok (numd 0 ds)
theorem signs_get {z : Str} {i n : Nat} (h : z.cps[i]? = some n) : (signs z)[i]? = some (.str ⟨#[n]⟩) := by
  unfold signs
  rw [List.getElem?_map, Array.getElem?_toList, h]; rfl
theorem signs_len {z : Str} : (signs z).length = z.cps.size := by unfold signs; simp
theorem di_enumS {p tpos : Pos} {elts : List Expr} {kk : Nat} (hm : X.mg "enumerate" = none) (hg : Gl X "enumerate") (he : PE X e (tV c G f)) (hs : starEach [e] X.env = (false, eval e X.env) :: starEach [] X.env := by rfl) :
    PI X (.Tuple elts kk tpos) (.Call (.Name "enumerate" p) [e] [] pos) (iD c G (dIt enumS f)) :=
  pi_imp (pi_enS hg hm (pa_cons he pa_nil hs) hs) fun σ H R ⟨S0, H0, S, r, ok, p⟩ => rd_seq ok p fun d v S1 H1 w1 o1 m1 p1 => by
    cases d with
    | str z =>
      cases m1
      refine ⟨z, rfl, PostG.go p1 o1.ex _ ⟨_, _, by rw [numd_len, signs_len]; exact walk_enS, fun _ _ _ _ _ => trivial, ?_⟩⟩
      · intro i S2 H2 x H3 hi e1 e2 y
        obtain ⟨T, a, b, rfl, h1, rfl, h2, h3⟩ := y
        cases h2
        replace h3 : Option.map (fun n => V.str ⟨#[n]⟩) z.cps[i]? = some b := h3
        rw [numd_len, signs_len] at hi
        have hz : z.cps[i]? = some z.cps[i] := by simp [hi]
        rw [hz] at h3
        cases h3
        refine ⟨upd S2 T (.tup [.int (i : Nat), .str ⟨#[z.cps[i]]⟩]), .tup [.int ((0 + i : Nat) : Int), .str ⟨#[z.cps[i]]⟩], Fwd.both e2 h1, numd_get _ 0 i _ (signs_get hz), ?_⟩
        rw [Nat.zero_add]
        exact .tup upd_same (.cons (.int _) (.cons (.str _) .nil))
    | _ => exact p1.elim
def pairs : List D → List D → List D
  | a :: as, b :: bs => .tup [a, b] :: pairs as bs
  | _, _ => []
def zipS : List D → Res (List D)
  | [.str x, .str y] => .ok (pairs (signs x) (signs y))
  | _ => .bad
def tMatch2 (K : PySem.W.Frag) (i j : Nat) (te : TE) (tb : TS) : TS := fun D σ H => te σ H fun v H1 => ∃ a xs, v = .ref a ∧ SqL K H1 a xs ∧ ((∃ u w, xs = [u, w] ∧ tb D ((σ.set i (some u)).set j (some w)) H1) ∨ (xs.length ≠ 2 ∧ D.nx σ H1))
theorem ps_match2 {te : TE} {tb : TS} {x y : Str} {i j : Nat} {body : List Stmt} {p1 p2 p3 : Pos} (hc : X.calm = true) (hN : X.N.Nodup) (hi : X.N[i]? = some x) (hj : X.N[j]? = some y) (hx : Loc X.env.scope x) (hy : Loc X.env.scope y)
    (he : PE X e te) (hb : PSs X body tb) (hfx : X.fn x = true ∨ X.env.scope.names.lookup x = some .local := by first | exact .inl rfl | exact .inr rfl | assumption) (hfy : X.fn y = true ∨ X.env.scope.names.lookup y = some .local := by first | exact .inl rfl | exact .inr rfl | assumption) :
    PS X (.Match e [⟨.MatchSequence [.MatchAs none (some x) p1, .MatchAs none (some y) p2] p3, none, body⟩] pos) (tMatch2 X.K i j te tb) := by
  refine ⟨fun pins s σ H D I h => ?_⟩
  refine wpAny_Match (thn (he.run pins s σ H _ I h) fun v s1 ⟨v', H1, I1, r1, a, xs, e1, hq, q⟩ => ?_)
  subst e1
  obtain rfl : v = Value.ref a := r1
  obtain ⟨its, rv, pl, hz⟩ := I1.list hq
  have hl' : s1.heap.IsList a its.toArray := pl.isList
  have hfit : (its.toArray.size : Int) < 2 ^ 63 := by
    have h1 := rv.length
    have h2 : (its.toArray.size) = xs.length := by rw [List.size_toArray, ← h1]
    rw [h2]
    have : (xs.length : Int) ≤ (sizeLine : Int) := by exact_mod_cast hz
    have : ((sizeLine : Nat) : Int) < 2 ^ 63 := by decide
    omega
  refine wpAny_matchCases_cons ?_
  rcases q with ⟨u, w', rfl, q⟩ | ⟨hne, q⟩
  · cases rv with
    | @cons _ b1 _ _ r1 rv =>
      cases rv with
      | @cons _ b2 _ _ r2 rv =>
        cases rv
        refine PyProof.Rows.matchSeq_list_hit hl' hfit (by simp) ?_
        have I2 : Inv X pins σ H1 { s1 with toks := s1.toks + 1 + 1 } := I1.tok _
        have key : ∀ {n : Nat} {Q : List Value → Shared → Prop}, n = [b1, b2].toArray.size → (∀ h', Heap.ExtBut s1.heap.objs.size s1.heap h' → Q [b1, b2] { s1 with heap := h', toks := s1.toks + 1 + 1 }) → wpAny (model X.prog X.w) X.A (unpackItems (.ref a) n none) Q X.xe { s1 with toks := s1.toks + 1 + 1 } := fun hn hQ => by
          subst hn
          exact PySem.W.kun_itemsOf (s := { s1 with toks := s1.toks + 1 + 1 }) (I.ok.hd hc) hl' fun h' hx' => hQ h' hx'
        refine key (by simp) fun h' hx' => ?_
        have I3 : Inv X pins σ H1 { s1 with heap := h', toks := s1.toks + 1 + 1 } := I2.kept (t' := s1.toks + 1 + 1) fun b o e => hx' b o (Nat.ne_of_lt (Heap.lt_size e)) e
        refine wpAny_matchEach_cons (wpAny_matchPattern_Capture (wpAny_matchEach_cons (wpAny_matchPattern_Capture (wpAny_matchEach_nil ?_))))
        refine wpAny_assignInOrder_more (wpAny_bindName (store_ok I3 hN hi hx r1 (fun s4 I4 => ?_) hfx))
        refine wpAny_assignInOrder_more (wpAny_bindName (store_ok I4 hN hj hy r2 (fun s5 I5 => ?_) hfy))
        exact wpAny_assignInOrder_none (hb.run pins s5 _ H1 D I5 q)
  · refine PyProof.Rows.matchSeq_list_miss hl' hfit (by rw [List.size_toArray, ← rv.length]; exact hne) ?_
    exact wpAny_matchCases_nil ⟨σ, H1, I1.tok _, q⟩
def match2F (i j : Nat) (f : Rho → Res D) (F : Rho → SR) : Rho → SR := fun r => liftS r (f r) fun d => match d with
  | .lst [a, b] => F ((r.set i (some a)).set j (some b))
  | .lst _ => .nx r
  | _ => .bad
theorem ds_match2 (i j : Nat) {x y : Str} {body : List Stmt} {F : Rho → SR} {p1 p2 p3 : Pos} (hg : Gok c G) (hc : X.calm = true) (hN : X.N.Nodup) (hi : X.N[i]? = some x) (hj : X.N[j]? = some y) (hx : Loc X.env.scope x) (hy : Loc X.env.scope y)
    (he : PE X e (tV c G f)) (hb : PSs X body (sD c L ((G.set i .v).set j .v) G F)) (hK : c.K = X.K := by rfl) (hfx : X.fn x = true ∨ X.env.scope.names.lookup x = some .local := by first | exact .inl rfl | exact .inr rfl | assumption) (hfy : X.fn y = true ∨ X.env.scope.names.lookup y = some .local := by first | exact .inl rfl | exact .inr rfl | assumption) :
    PS X (.Match e [⟨.MatchSequence [.MatchAs none (some x) p1, .MatchAs none (some y) p2] p3, none, body⟩] pos) (sD c L G G (match2F i j f F)) :=
  ps_imp (ps_match2 hc hN hi hj hx hy he hb hfx hfy) fun E σ H ⟨S0, H0, S, r, ok, p⟩ => st_seq hg ok p fun d v S1 H1 w1 o1 m1 p1 => by
    rw [← hK]
    cases d with
    | lst ds =>
      cases m1 with | @lst q xs _ h rr =>
      refine ⟨q, xs, rfl, .inl (.inl (o1.ex _ _ h)), ?_⟩
      match ds, xs, rr, p1 with
      | [a, b], _, .cons ha (.cons hb .nil), p1 =>
        exact .inl ⟨_, _, rfl, S0, H0, S1, _, (o1.setV i ha).setV j hb, p1⟩
      | [], xs, rr, p1 => exact .inr ⟨by rw [rr.length]; simp, p1 σ S1 H1 o1⟩
      | [a], xs, rr, p1 => exact .inr ⟨by rw [rr.length]; simp, p1 σ S1 H1 o1⟩
      | a :: b :: d :: ds, xs, rr, p1 => exact .inr ⟨by rw [rr.length]; simp, p1 σ S1 H1 o1⟩
    | _ => exact p1.elim
def repS (x : Str) (n : Int) : Str := ⟨(List.replicate n.toNat x.cps.toList).flatten.toArray⟩
def rMulS : R2 := fun x y H Q => ∃ i j, x = .str i ∧ y = .int j ∧ j < 2 ^ 60 ∧ -(2 ^ 60) < j ∧ i.length * j.toNat ≤ sizeLine ∧ Q (.str (repS i j)) H
theorem repS_fold (x : Str) (n : Nat) (a : Array Nat) : (List.replicate n x.cps).foldl (· ++ ·) a = a ++ (List.replicate n x.cps.toList).flatten.toArray := by
  induction n generalizing a with
  | zero => simp
  | succ n ih => rw [List.replicate_succ, List.foldl_cons, ih, List.replicate_succ, List.flatten_cons]; apply Array.toList_inj.mp; simp
theorem op_mulS : OpR X (binaryOp .Mult) rMulS := by
  intro pins s σ H x y v u Q I rx ry h
  obtain ⟨i, j, rfl, rfl, h1, h2, hz, q⟩ := h
  obtain ⟨t, rfl⟩ := rx
  obtain ⟨t', rfl⟩ := ry
  have hz2 : (sizeLine : Nat) < 2 ^ 40 := by decide
  refine P.mul_str (by have a1 : ¬ j < -(2 ^ 63 : Int) := by omega
                       have a2 : ¬ j ≥ 2 ^ 63 := by omega
                       rw [decide_eq_false a1, decide_eq_false a2]; rfl) (fun hn hc => ?_) (fun hn hc => ?_) ?_
  · intro hgt
    have hj : 0 < j := by omega
    have h3 : (i.length : Int) * j ≤ sizeLine := by
      have : ((i.length * j.toNat : Nat) : Int) ≤ (sizeLine : Int) := by exact_mod_cast hz
      rw [Int.natCast_mul, Int.toNat_of_nonneg (by omega)] at this
      exact this
    have h4 : (2 ^ 63 - 1) / j + 1 ≤ (i.length : Int) := hgt
    have h5 : ((2 ^ 63 - 1) / j + 1) * j ≤ (i.length : Int) * j := Int.mul_le_mul_of_nonneg_right h4 (by omega)
    have h6 : (2 ^ 63 - 1) < ((2 ^ 63 - 1) / j + 1) * j := Int.lt_ediv_add_one_mul_self _ hj
    have h7 : ((sizeLine : Nat) : Int) < 2 ^ 40 := by exact_mod_cast hz2
    omega
  · exact decide_eq_false (Nat.not_lt.mpr hz)
  · have e1 : repS i j = ⟨(List.replicate j.toNat i.cps).foldl (· ++ ·) #[]⟩ := by
      unfold repS
      rw [repS_fold]; simp
    by_cases hn : j < 1
    · rw [if_pos hn]
      have : repS i j = Str.empty := by
        unfold repS
        rw [show j.toNat = 0 by omega]
        rfl
      rw [this] at q
      exact ⟨by decide, ⟨.str Str.empty, H, I.tok _, ⟨_, rfl⟩, q⟩⟩
    · rw [if_neg hn]
      by_cases hc : (j == 1 || i.length == 0) = true
      · rw [if_pos hc]
        have : repS i j = i := by
          rw [Bool.or_eq_true] at hc
          rcases hc with hc | hc
          · have : j = 1 := by simpa using hc
            subst this
            unfold repS
            apply Str.ext'
            simp
          · have h0 : i.cps.size = 0 := by have : i.length = 0 := by simpa using hc
                                           exact this
            have h0' : i.cps = #[] := Array.eq_empty_of_size_eq_zero h0
            unfold repS
            apply Str.ext'
            rw [h0']
            simp
        rw [this] at q
        exact ⟨.str i, H, I, ⟨_, rfl⟩, q⟩
      · rw [if_neg hc, ← e1]
        refine ⟨?_, ⟨.str (repS i j), H, I.tok _, ⟨_, rfl⟩, q⟩⟩
        have : (repS i j).length = i.length * j.toNat := by
          show (List.replicate j.toNat i.cps.toList).flatten.toArray.size = _
          rw [List.size_toArray, List.length_flatten, List.map_replicate, List.sum_replicate_nat, Array.length_toList, Nat.mul_comm]; rfl
        rw [this]; exact hz
noncomputable def mulX : D → D → Res D
  | .str a, .int k => guard (k < 2 ^ 60 ∧ -(2 ^ 60) < k ∧ a.length * k.toNat ≤ sizeLine) (.ok (.str (repS a k)))
  | x, y => mulD x y
def rMulY : R2 := fun x y H Q => rMulX x y H Q ∨ rMulS x y H Q
theorem or_mulX : OpR X (binaryOp .Mult) rMulY := or_mul.or op_mulS
theorem os_mulX : OpS c (mV c) rMulY mulX := by
  intro σ S H x y d e Q ex hx hy p
  unfold mulX at p
  split at p
  · cases hx.str; cases hy.int
    obtain ⟨⟨h1, h2, h3⟩, p⟩ := p.gd
    exact .inr ⟨_, _, rfl, rfl, h1, h2, h3, p.here ex (.str _)⟩
  · exact .inl (os_mul σ S H x y _ _ Q ex hx hy p)
theorem ltCps_iff : ∀ a b : List Nat, PySem.Spec.ltCps a b = decide (a < b)
  | [], [] => by simp [PySem.Spec.ltCps]
  | [], _ :: _ => by simp [PySem.Spec.ltCps]
  | _ :: _, [] => by simp [PySem.Spec.ltCps]
  | a :: r, b :: t => by
    rw [PySem.Spec.ltCps, ltCps_iff r t]
    by_cases h : a < b
    · simp [h, List.cons_lt_cons_iff]
    · by_cases h2 : a = b
      · subst h2; simp [List.cons_lt_cons_iff]
      · simp [h, h2, List.cons_lt_cons_iff]
def leS (a b : Str) : Bool := !decide (b.cps.toList < a.cps.toList)
def sortS (xs : List Str) : List Str := xs.mergeSort leS
theorem leS_trans (a b d : Str) (h1 : leS a b = true) (h2 : leS b d = true) : leS a d = true := by
  unfold leS at *
  simp only [Bool.not_eq_true', decide_eq_false_iff_not, List.not_lt] at *
  exact List.le_trans h1 h2
theorem leS_total (a b : Str) : (leS a b || leS b a) = true := by
  unfold leS
  simp only [Bool.or_eq_true, Bool.not_eq_true', decide_eq_false_iff_not, List.not_lt]
  exact List.le_total _ _
theorem leS_antisymm (a b : Str) (h1 : leS a b = true) (h2 : leS b a = true) : a = b := by
  unfold leS at *
  simp only [Bool.not_eq_true', decide_eq_false_iff_not, List.not_lt] at *
  exact Str.ext' (Array.toList_inj.mp (List.le_antisymm h1 h2))
theorem rising_pw : ∀ (xs : List Str) (p : Str), PyProof.Rows.risingS p xs = true → (p :: xs).Pairwise (fun a b => leS a b = true)
  | [], p, _ => by simp
  | x :: xs, p, h => by
    unfold PyProof.Rows.risingS at h
    rw [Bool.and_eq_true] at h
    obtain ⟨h1, h2⟩ := h
    have ih := rising_pw xs x h2
    have hpx : leS p x = true := by
      unfold leS
      rw [ltCps_iff] at h1
      exact h1
    refine List.Pairwise.cons (fun y hy => ?_) ih
    rcases List.mem_cons.mp hy with rfl | hy
    · exact hpx
    · exact leS_trans _ _ _ hpx (List.rel_of_pairwise_cons ih hy)
theorem sortS_of {xs ys : List Str} (hp : ys.Perm xs) (h : PyProof.Rows.sortedS ys = true) : ys = sortS xs := by
  have h1 : ys.Pairwise (fun a b => leS a b = true) := by
    cases ys with
    | nil => simp
    | cons y ys => exact rising_pw ys y h
  exact List.Perm.eq_of_pairwise (fun a b _ _ => leS_antisymm a b) h1 (List.pairwise_mergeSort leS_trans leS_total xs) (hp.trans (List.mergeSort_perm xs leS).symm)
noncomputable def sortSD (d : D) : Res D := (itemsL d).bind fun ds => match allStr ds with
  | some zs => guard (zs.length < 64) (.ok (.lst (strsD (sortS zs))))
  | none => .bad
theorem cs_sortS (hK : c.K = X.K := by rfl) : CallS c (mO c) (rSortedS X.K) [true] (g1 sortSD) := by
  intro σ S H vs ds Q ex m p
  obtain ⟨v, d, rfl, rfl, h⟩ := m.one
  rw [← hK]
  have fin : ∀ q xs ds', v = .ref q → SqL c.K H q xs → RpA c.K c.cm S xs ds' → itemsL d = .ok ds' → rSortedS c.K [v] H Q := fun q xs ds' hv hs rr hd => by
    subst hv
    replace p : PostG c σ S H ((itemsL d).bind fun ds => match allStr ds with
      | some zs => guard (zs.length < 64) (.ok (.lst (strsD (sortS zs))))
      | none => .bad) (fun a S' H' => ∀ b, mO c H S' H' b a → Q b H') := p
    rw [hd] at p
    replace p : PostG c σ S H (match allStr ds' with
      | some zs => guard (zs.length < 64) (.ok (.lst (strsD (sortS zs))))
      | none => .bad) (fun a S' H' => ∀ b, mO c H S' H' b a → Q b H') := p
    cases hz : allStr ds' with
    | none => rw [hz] at p; exact p.elim
    | some zs =>
      rw [hz] at p
      obtain ⟨hl, p⟩ := PostG.gd p
      have := allStr_rp rr hz; subst this
      refine ⟨q, zs, rfl, hs, hl, fun ys l hp hsrt hn => ?_⟩
      have := sortS_of hp hsrt; subst this
      exact p.kept ex hn (.lst (strs_rp _))
  cases d with
  | lst ds' => obtain ⟨q, xs, hq, a1, r1⟩ := h.list ex; exact fin q xs ds' hq (.inl (.inl a1)) r1 rfl
  | fz ds' => obtain ⟨q, xs, hq, a1, r1⟩ := h.fz ex; exact fin q xs ds' hq a1 r1 rfl
  | _ => exact p.elim
variable {cpos : Pos}
end
end Dx
end S_DxZ
section S_DxO
set_option Elab.async false
set_option linter.all false
set_option maxRecDepth 100000
set_option maxHeartbeats 2000000
namespace Dx
open PySem L2 ItX
open PyProof.Rows hiding St
section
variable {X : Cx} {k : Nat} {fa C : Addr} {fd : FuncData} {ps : List Str} {sp : Sp} {pins : List (Addr × Obj)} {σ : St} {H : Hp} {s : Shared} {Q : VK} {us : List Value} {vs : List V}
abbrev noX : XK := fun _ _ _ => False
/-- a def runs below, and raises nothing -/
theorem run_ce {A : Around} {R : Value → Shared → Prop} {E' : Value → Shared → Prop} (F1 : FnOk X.prog X.w X.K X.mg X.base (L2.CX X.prog X.w) k fa fd ps sp) (hr : Room k A) (e0 : Env0 X.prog X.w X.K X.mg X.base A X.stack s H) (hb : L2.Binds X.K fd ps []) (hK : X.K.In s.heap) (r : Vals vs us) (h : sp vs H Q noX)
    (fin : ∀ u s', CE X.stack X.prog X.w H s Q u s' → R u s') : wpAny (model X.prog X.w) A (call (.ref fa) us) R E' s := by
  have hl : (us ++ []).length = ps.length := by rw [List.append_nil, ← r.length]; exact F1.len _ _ _ _ h
  have hb2 := hb s us hK hl
  rw [List.append_nil] at hb2
  refine wpAny_call (codeAny_mono (F1.run A X.stack s H ⟨us, []⟩ us vs Q noX hr e0 hb2 r h) fun r s' hq => ?_)
  cases r with
  | error e => exact (cx_never hq).elim
  | ok fl =>
    cases fl with
    | ret u => exact fin u s' hq
    | next => exact False.elim hq
    | brk => exact False.elim hq
    | cont => exact False.elim hq
theorem run_calm {A : Around} {E' : Value → Shared → Prop} (F1 : FnOk X.prog X.w X.K X.mg X.base (L2.CX X.prog X.w) k fa fd ps sp) (hr : Room k A) (e0 : Env0 X.prog X.w X.K X.mg X.base A X.stack s H) (hb : L2.Binds X.K fd ps []) (I : Inv X pins σ H s) (r : Vals vs us) (h : sp vs H Q noX) :
    wpAny (model X.prog X.w) A (call (.ref fa) us) (EP X pins σ Q) E' s := run_ce F1 hr e0 hb I.kIn r h fun u s' hq => I.after hq
theorem ins_at {a dx : Addr} {fs : List (Str × V)} (I : Inv X pins σ H s) (h : H a = some (.ins C dx fs)) : ∃ ox od, PySem.W.InstAt s.heap a ox C od ∧ ox.data = .plain := by
  obtain ⟨mA, O, _⟩ := ins_get I.hok h
  obtain ⟨od, J, _⟩ := O.look
  exact ⟨_, _, J, rfl⟩
def rLenO (C : Addr) (sp : Sp) : List V → Hp → VK → Prop := fun xs H Q => ∃ a dx fs, xs = [V.ref a] ∧ H a = some (.ins C dx fs) ∧ sp [.ref a] H (fun z H' => ∃ i : Int, z = .int i ∧ 0 ≤ i ∧ i < 2 ^ 63 ∧ Q z H') noX
theorem call_lenO (hm : L2.Meth X.K C "__len__" fa) (F1 : FnOk X.prog X.w X.K X.mg X.base (L2.CX X.prog X.w) k fa fd ps sp) (hr : Room (k + 1) X.A) (hb : L2.Binds X.K fd ps []) : CallR X (.builtin "len") (rLenO C sp) := by
  intro pins s σ H xs us Q I r h
  obtain ⟨a, dx, fs, rfl, ha, q⟩ := h
  obtain ⟨u, rfl, ru⟩ := r.one
  cases ru
  obtain ⟨ox, od, J, _⟩ := ins_at I ha
  obtain ⟨m, hF⟩ := I.fr
  refine PySem.W.len_K hF I.ok.mod.kin J hm.at_ hm.fn (wpAny_mono (run_calm (us := [.ref a]) (vs := [.ref a]) F1 hr.in1 I.env0.in1 hb I (.cons rfl .nil) q) (fun w s' z => ?_) fun _ _ x => x)
  obtain ⟨z', H', I', rz, i, rfl, h0, h1, qz⟩ := z
  obtain ⟨t, rfl⟩ := rz
  exact ⟨⟨h0, h1⟩, .int i, H', I'.tok _, ⟨_, rfl⟩, qz⟩
end
section
variable {X : Cx} {c : Cf} {L G G' : List Ow} {f f1 : Rho → Res D} {e o : Expr} {es : List Expr} {pos apos p : Pos} {fs : Rho → Res (List D)} {n : Str} {C : Addr} {F : List D → Res D} {ms : List Bool} {rm : Bool} {k : Nat} {fa : Addr} {fd : FuncData} {ps : List Str}
theorem calm_sp {S H : Hp} {vs : List V} {ds : List D} {Q : VK} {a : D} (ex : Ex S H) (m : RpM c S H ms vs ds) (hF : F ds = .ok a) (q : ∀ S' H' b, Fwd S H S' H' → mR c rm H S' H' b a → Q b H') : spD c.K c.cm ms rm F vs H Q noX := by
  refine call_rd (c := ⟨c.K, c.cm, fun _ _ _ _ => False, none, rm⟩) (σ := []) (fun _ _ _ h => h) ex (RpM.cf (c := c) (c' := ⟨c.K, c.cm, fun _ _ _ _ => False, none, rm⟩) rfl rfl m) ?_
  rw [hF]
  exact fun S' H' w b hb => q S' H' b w (by cases rm <;> exact hb)
/-- an object of the class n -/
def isCls (n : Str) : D → Bool
  | .obj c _ _ => decide (c = n)
  | _ => false
theorem of_isCls {S H : Hp} {v : V} {d : D} (ex : Ex S H) (hcn : c.cm n = some C) (h : isCls n d = true) (m : RpB c.K c.cm S H v d) : ∃ a dx fs, v = .ref a ∧ H a = some (.ins C dx fs) := by
  cases d with
  | obj c' ns vs =>
    have hc : c' = n := of_decide_eq_true h
    subst hc
    obtain ⟨q, C', dx, fs, rfl, h1, h2, _, _⟩ := RpB.obj m ex
    rw [hcn] at h1; cases h1
    exact ⟨q, dx, fs, rfl, h2⟩
  | _ => cases h
noncomputable def lenO (n : Str) (F : List D → Res D) (d : D) : Res D := if isCls n d = true then (match F [d] with
  | .ok (.int i) => guard (0 ≤ i ∧ i < 2 ^ 63) (.ok (.int i))
  | _ => .bad) else .bad
theorem cs_lenO (hcn : c.cm n = some C) : CallS c (mV c) (rLenO C (spD c.K c.cm [true] false F)) [true] (g1 (lenO n F)) := by
  intro σ S H vs ds Q ex m p
  obtain ⟨v, d, rfl, rfl, h⟩ := m.one
  have p : PostG c σ S H (lenO n F d) _ := p
  unfold lenO at p
  split at p
  · rename_i hc
    obtain ⟨a, dx, gs, rfl, h2⟩ := of_isCls ex hcn hc h
    split at p
    · rename_i i hF
      obtain ⟨⟨h0, h1⟩, p⟩ := p.gd
      exact ⟨a, dx, gs, rfl, h2, calm_sp (ds := [d]) ex ⟨h, trivial⟩ hF fun S' H' b w hb => by
        have hb : Rp c.K c.cm S' b (.int i) := hb
        cases hb
        exact ⟨i, rfl, h0, h1, p S' H' w _ (.int i)⟩⟩
    · exact p.elim
  · exact p.elim
def dStar (f : Rho → Res D) (fs : Rho → Res (List D)) : Rho → Res (List D) := fun r => (f r).bind fun d => (items d).bind fun xs => (fs r).bind fun ys => .ok (xs ++ ys)
def zipL : List D → Res (List D)
  | [.lst x, .lst y] => .ok (pairs x y)
  | _ => .bad
end
/-- what such an __iter__ gives: a new iterator of the list -/
def ItOk (P : Program) (w : World) (K : PySem.W.Frag) (mg : Str → Option Value) (base : Heap) (k : Nat) (f : Addr) (C : Addr) (fl : Str) : Prop :=
  ∀ (A : Around) (outer : List Env) (s : Shared) (H : Hp) (a dx l : Addr) (fs : List (Str × V)) (xs : List V) (Q : VK), Room k A → Env0 P w K mg base A outer s H → H a = some (.ins C dx fs) → fs.lookup fl = some (.ref l) → SqL K H l xs →
    (∀ it, H it = none → s.heap.objs.size ≤ it → Q (.ref it) (upd H it (ItO l it 0))) → codeAny (model P w) A (.call (.ref f) ⟨[.ref a], []⟩) (CR (L2.CX P w) outer P w H s Q noX) s
theorem iter_ok {P : Program} {w : World} {K : PySem.W.Frag} {mg : Str → Option Value} {base : Heap} {qual : Str} {st : Stmt} {fI C : Addr} {fd : FuncData} {N ps : List Str} {fl : Str} (F : Fun K "__iter__" qual st fI fd) (S : FnScope N ps (defScope st)) (hl : ps.length = 1) (hN : N.length = 1) (cl : Cls K C) (na : NoAttr K C fl) (bi : L2.Binds K fd ps [])
    (hb : ∀ (cdv : Value) (A : Around) (outer : List Env) (s : Shared) (H : Hp) (E : XK), PSs (cxOf (L2.CX P w) P w K mg base N qual (defScope st) fI cdv A outer s H E) (defBody st) (tRet (tCB (ItX.rIterN K s.heap.objs.size) (tCons (tFld K (tVar 0) fl) tNil)))) :
    ItOk P w K mg base 1 fI C fl := by
  intro A outer s H a dx l fs xs Q hr e0 ha hf hq q
  obtain ⟨oc, od, kV, doc, pm, an, cd, ct, osl, rfl, lk, hcd⟩ := F.ex
  have inK : K.In s.heap := e0.mod.kin.keeps fun z o e => (e0.bs z o e).1
  have nl : s.heap.NoLimit := e0.mod.nolimit.keeps fun z o e => (e0.bs z o e).1
  have bnd := bi s [Value.ref a] inK (by rw [List.append_nil]; exact hl.symm)
  rw [List.append_nil] at bnd
  have kinds : ∀ y ∈ ps.zip [Value.ref a], (defScope st).names.lookup y.1 = some .local ∨ ((defScope st).names.lookup y.1 = some .cell ∧ ((cellsFrom (s.heap.objs.size + 1) (defScope st).names []).lookup y.1).isSome = true) := by
    rintro ⟨n, v⟩ hy
    rcases S.par n (List.of_mem_zip hy).1 with z | z
    · exact .inl z
    · exact .inr ⟨z, PySem.W.cellsFrom_some _ _ _ (.inl z)⟩
  refine codeAny_call_function hr.depth (inK _ _ lk) rfl S.co S.gen rfl (PySem.W.codeRec_of inK hcd) (bnd _ _ _ _ (wpAny_newFunctionEnv_cells S.kind kinds fun env he s1 ic => ?_))
  subst he
  refine ⟨nl.keeps ic.toInCall.keep, codeAny_func ?_⟩
  have J0 : Inv (cxOf (L2.CX P w) P w K mg base N qual (defScope st) fI cd A outer s H noX) [] (L2.start N [V.ref a]) H s1 := inv_start S hr.hd e0 hl.symm (.cons rfl .nil) ic
  have es : L2.start N [V.ref a] = [some (.ref a)] := by unfold L2.start; rw [hN]; rfl
  have goal : tRet (tCB (ItX.rIterN K s.heap.objs.size) (tCons (tFld K (tVar 0) fl) tNil)) { nx := fun _ H' => Q .non H', rt := Q } (L2.start N [V.ref a]) H := by
    rw [es]
    exact ⟨.ref a, rfl, a, C, dx, fs, .ref l, rfl, ha, cl, na, hf, l, xs, rfl, hq, q⟩
  refine wpAny_mono ((hb cd A outer s H noX).run [] s1 _ H _ J0 goal) (fun fl s' z => ?_) fun e s' z => z
  cases fl with
  | ret u =>
    obtain ⟨v, σ', H', J, rv, z⟩ := z
    exact ⟨v, H', J.os, J.bare, J.base, J.hok, rv, z⟩
  | next =>
    obtain ⟨σ', H', J, z⟩ := z
    exact ⟨V.non, H', J.os, J.bare, J.base, J.hok, rfl, z⟩
  | brk => obtain ⟨_, _, _, z⟩ := z; exact z.elim
  | cont => obtain ⟨_, _, _, z⟩ := z; exact z.elim
section
variable {X : Cx} {k : Nat} {fa C : Addr} {pins : List (Addr × Obj)} {σ : St} {H : Hp} {s : Shared} {fl : Str}
/-- the call of __iter__: a new iterator of the list -/
theorem run_it {A : Around} {E' : Value → Shared → Prop} {a dx l : Addr} {fs : List (Str × V)} {xs : List V} (F1 : ItOk X.prog X.w X.K X.mg X.base k fa C fl) (hr : Room k A) (e0 : Env0 X.prog X.w X.K X.mg X.base A X.stack s H) (I : Inv X pins σ H s)
    (ha : H a = some (.ins C dx fs)) (hf : fs.lookup fl = some (.ref l)) (hq : SqL X.K H l xs) :
    wpAny (model X.prog X.w) A (call (.ref fa) [.ref a]) (fun u s' => ∃ it, u = .ref it ∧ s.heap.objs.size ≤ it ∧ H it = none ∧ Inv X pins σ (upd H it (ItO l it 0)) s') E' s := by
  refine wpAny_call (codeAny_mono (F1 A X.stack s H a dx l fs xs (fun v H' => ∃ it, v = .ref it ∧ H it = none ∧ s.heap.objs.size ≤ it ∧ H' = upd H it (ItO l it 0)) hr e0 ha hf hq fun it hit hs => ⟨it, rfl, hit, hs, rfl⟩) fun r s' hr => ?_)
  cases r with
  | error e => exact (cx_never hr).elim
  | ok fl =>
    cases fl with
    | ret u =>
      obtain ⟨v2, H2, I2, r2, it, rfl, h2, h3, rfl⟩ := I.after hr
      cases r2
      exact ⟨it, rfl, h3, h2, I2⟩
    | next => exact False.elim hr
    | brk => exact False.elim hr
    | cont => exact False.elim hr
theorem it_next {A : Around} {Q : Value → Shared → Prop} {E : Value → Shared → Prop} {l it : Addr} (I : Inv X pins σ H s) (h : H it = some (ItO l it 0)) (q : Q (.ref it) s) : PySem.W.OwitIt (model X.prog X.w) A Q E (.ref it) s := by
  have eo := itO_get I h
  unfold PySem.W.OwitIt
  exact wpAny_specialOf (T := "list_iterator") ⟨_, eo, rfl⟩ slot_listiter_next.lookup q
end
section
variable {X : Cx} {c : Cf} {G : List Ow} {f : Rho → Res D} {e : Expr} {n fl : Str} {C fa : Addr} {fd : FuncData} {ps : List Str} {k : Nat} {tg : Expr}
def iOwn (K : PySem.W.Frag) (C : Addr) (fl : Str) (te : TE) : TI := fun σ H R => te σ H fun x H1 => ∃ a dx fs l xs, x = V.ref a ∧ H1 a = some (.ins C dx fs) ∧ fs.lookup fl = some (.ref l) ∧ SqL K H1 l xs ∧ R (Itl K l) H1
theorem itlF0 (K : PySem.W.Frag) (a : Addr) : ItlF K a 0 = Itl K a := by
  unfold ItlF
  simp only [Nat.zero_add]
theorem pi_own {te : TE} (hm : L2.Meth X.K C "__iter__" fa) (F1 : ItOk X.prog X.w X.K X.mg X.base k fa C fl) (hr : Room k X.A) (he : PE X e te) : PI X tg e (iOwn X.K C fl te) := by
  refine ⟨fun pins s σ H R I h => ?_⟩
  refine thn (he.run pins s σ H _ I h) fun v s1 ⟨x, H1, I1, r1, a, dx, fs, l, xs, ex, ha, hf, hq, q⟩ => ?_
  subst ex
  cases r1
  obtain ⟨ox, od, J, _⟩ := ins_at I1 ha
  obtain ⟨m, hF⟩ := I1.fr
  refine PySem.W.owit_iter hF I1.ok.mod.kin J hm.at_ hm.fn (wpAny_mono (run_it F1 hr I1.env0 I1 ha hf hq) (fun u s2 z => ?_) fun _ _ z => z)
  obtain ⟨it, rfl, hsz, hit, I2⟩ := z
  have hi : upd H1 it (ItO l it 0) it = some (ItO l it 0) := upd_same
  have eo := itO_get I2 hi
  have st : s2.heap.IsListIter it l (0 + 0) := ⟨_, eo, rfl, rfl⟩
  refine it_next I2 hi ?_
  have hi' := hi
  unfold ItO at hi'
  refine ⟨it, [it], _, _, dropH (upd H1 it (ItO l it 0)) it, rfl, inv_drop I2 hi', turn_listF l it 0, st, fun b hb => ?_, ?_⟩
  · have e : b = it := by simpa using hb
    rw [e]
    exact inv_fp I2 hi (Nat.le_trans I1.sz hsz)
  · rw [dropH_upd hit, itlF0]
    exact q
/-- an object of the class n: the items of its list fl -/
def itO (n fl : Str) : D → Res (List D)
  | .obj c ns vs => if c = n then (match lookF ns vs fl with
    | some (.lst ds) => .ok ds
    | _ => .bad) else .bad
  | _ => .bad
theorem of_itO {S H : Hp} {v : V} {d : D} {ds : List D} (ex : Ex S H) (hcn : c.cm n = some C) (h : itO n fl d = .ok ds) (m : RpB c.K c.cm S H v d) : ∃ a dx fs l xs, v = .ref a ∧ H a = some (.ins C dx fs) ∧ fs.lookup fl = some (.ref l) ∧ S l = some (.lst xs) ∧ RpA c.K c.cm S xs ds := by
  cases d with
  | obj c' ns vs =>
    unfold itO at h
    dsimp only at h
    split at h
    · rename_i hc
      subst hc
      split at h
      · rename_i ds' hd
        cases h
        obtain ⟨q, C', dx, fs, rfl, h1, h2, rfl, h4⟩ := RpB.obj m ex
        rw [hcn] at h1; cases h1
        obtain ⟨v', hv, hr⟩ := look_rp h4 hd
        cases hr with
        | @lst l xs _ a1 a2 => exact ⟨q, dx, fs, l, xs, rfl, h2, hv, a1, a2⟩
      · cases h
    · cases h
  | _ => cases h
theorem di_own (hcn : c.cm n = some C) (hm : L2.Meth X.K C "__iter__" fa) (F1 : ItOk X.prog X.w X.K X.mg X.base k fa C fl) (hr : Room k X.A) (he : PE X e (tR c G f)) (hK : c.K = X.K := by rfl) : PI X tg e (iD c G (dIt (itO n fl) f)) :=
  pi_imp (pi_own hm F1 hr he) fun σ H R ⟨S0, H0, S, r, ok, p⟩ => rd_seq ok p fun d v S1 H1 w1 o1 m1 p1 => by
    rw [← hK]
    cases hd : itO n fl d with
    | ok ds =>
      rw [hd] at p1
      obtain ⟨a, dx, fs, l, xs, rfl, h1, h2, h3, h4⟩ := of_itO o1.ex hcn hd m1
      exact ⟨a, dx, fs, l, xs, rfl, h1, h2, .inl (.inl (o1.ex _ _ h3)), p1.go o1.ex _ (gives_list (.inl (.inl h3)) h4)⟩
    | err _ _ _ => exfalso; unfold itO at hd; split at hd <;> (try split at hd) <;> (try split at hd) <;> cases hd
    | bad => rw [hd] at p1; exact p1.elim
end
end Dx
end S_DxO
section S_DxP
set_option Elab.async false
set_option linter.all false
set_option maxRecDepth 100000
set_option maxHeartbeats 2000000
namespace Dx
open PySem L2 ItX
open PyProof.Rows hiding St
/-- a length, also of a dict with tuple keys -/
def LenX (K : PySem.W.Frag) (v : V) (H : Hp) (n : Nat) : Prop := LenV K v H n ∨ ∃ p kvs, v = .ref p ∧ Rd H p (.dT kvs) ∧ n = kvs.length
def rLenX (K : PySem.W.Frag) : List V → Hp → VK → Prop := fun xs H Q => ∃ x n, xs = [x] ∧ LenX K x H n ∧ Q (.int (n : Int)) H
theorem call_lenX {X : Cx} : CallR X (.builtin "len") (rLenX X.K) := by
  intro pins s σ H xs us Q I r h
  obtain ⟨x, n, rfl, h | ⟨p, kvs, rfl, hq, rfl⟩, q⟩ := h
  · exact call_len pins s σ H [x] us Q I r ⟨x, n, rfl, h, q⟩
  · obtain ⟨u, rfl, ru⟩ := r.one
    cases ru
    obtain ⟨z, hd, ys, rel, dd⟩ := dt_rd I.hok hq
    have hl : kvs.length = ys.length := Paired.length rel
    refine call_len_dictH hd dd (by rw [← hl]; rw [sizeLine_eq] at z; omega) ?_
    rw [← hl]
    exact ⟨.int ((kvs.length : Nat) : Int), H, I.tok _, ⟨_, rfl⟩, q⟩
/-- a length that leaves all as it is: return len(self.f) -/
def spLn (K : PySem.W.Frag) (C : Addr) (fl : Str) : Sp := fun vs H Q _ => ∃ a dx fs v n, vs = [.ref a] ∧ H a = some (.ins C dx fs) ∧ fs.lookup fl = some v ∧ LenX K v H n ∧ Q (.int (n : Int)) H
theorem len_ok {P : Program} {w : World} {K : PySem.W.Frag} {mg : Str → Option Value} {base : Heap} {qual : Str} {st : Stmt} {fI C : Addr} {fd : FuncData} {N ps : List Str} {fl : Str} (F : Fun K "__len__" qual st fI fd) (S : FnScope N ps (defScope st)) (hl : ps.length = 1) (hN : N.length = 1) (cl : Cls K C) (na : NoAttr K C fl)
    (hb : ∀ (cdv : Value) (A : Around) (outer : List Env) (s : Shared) (H : Hp) (E : XK), PSs (cxOf (L2.CX P w) P w K mg base N qual (defScope st) fI cdv A outer s H E) (defBody st) (tRet (tCB (rLenX K) (tCons (tFld K (tVar 0) fl) tNil)))) :
    FnOk P w K mg base (L2.CX P w) 1 fI fd ps (spLn K C fl) := by
  refine F.okX (k := 0) S (fun vs H Q E h => ?_) (fun cdv A outer s H vs Q E hr h => ?_)
  · obtain ⟨a, dx, fs, v, n, rfl, _⟩ := h; exact hl.symm
  · obtain ⟨a, dx, fs, v, n, rfl, ha, hf, hq, q⟩ := h
    refine ⟨_, hb cdv A outer s H E, ?_⟩
    have e : L2.start N [.ref a] = [some (.ref a)] := by unfold L2.start; rw [hN]; rfl
    rw [e]
    exact ⟨.ref a, rfl, a, C, dx, fs, v, rfl, ha, cl, na, hf, v, n, rfl, hq, q⟩
section
variable {X : Cx} {k : Nat} {fi fn C : Addr} {fd : FuncData} {ps : List Str} {pins : List (Addr × Obj)} {σ : St} {H : Hp} {s : Shared} {fl gl : Str} {A1 : Around}
theorem lenV_put {K : PySem.W.Frag} {v : V} {n : Nat} {q : Addr} {u : HO} (h : LenV K v H n) (hq : H q = none) : LenV K v (upd H q u) n := by
  cases v with
  | ref p =>
    rcases h with ⟨xs, h1, h2⟩ | ⟨xs, h1, h2⟩
    · exact .inl ⟨xs, (Ex.new hq).l h1, h2⟩
    · exact .inr ⟨xs, (Ex.new hq).t h1, h2⟩
  | str y => exact h
  | byt y => exact h
  | _ => exact h.elim
theorem lenX_put {K : PySem.W.Frag} {v : V} {n : Nat} {q : Addr} {u : HO} (h : LenX K v H n) (hq : H q = none) : LenX K v (upd H q u) n := by
  rcases h with h | ⟨p, kvs, rfl, h, rfl⟩
  · exact .inl (lenV_put h hq)
  · refine .inr ⟨p, kvs, rfl, ?_, rfl⟩
    rcases h with h | ⟨o, h⟩
    · exact .inl ((Ex.new hq) _ _ h)
    · exact .inr ⟨o, (Ex.new hq) _ _ h⟩
/-- the walk of a list's iterator that fills the list at q -/
theorem ext_loop {Rs : Result → Shared → Prop} {q it l : Addr} {xs : List V} (hh : A1.in1.handled = none) (hq : H q = none) (hs : SqL X.K H l xs) (hz : xs.length ≤ sizeLine) (hdone : ∀ s, Inv X pins σ (upd H q (.lst xs)) s → Rs (.ok (.ret .none)) s) :
    ∀ (m i : Nat) (s : Shared), i + m = xs.length → Inv X pins σ (upd H q (.lst (xs.take i))) s → FpOk X pins (upd H q (.lst (xs.take i))) it → s.heap.IsListIter it l i →
      codeAny (model X.prog X.w) A1 (.builtin "list.extend.loop" ⟨[.ref q, .ref it, .none], []⟩) Rs s := by
  intro m
  induction m with
  | zero =>
    intro i s hi I hf st
    refine codeAny_builtin PySem.F.entry_extend_loop ?_
    rw [Around.under_plainId PySem.F.plain_extend_loop _]
    show wpAny _ A1.in1 (pyNext (.ref it) >>= _) _ _ s
    obtain ⟨its, rv, p, _⟩ := I.list ((Ex.new hq).l hs)
    have hl := rv.length
    obtain ⟨f0, f1, f2, f3, f4, f5⟩ := hf
    refine wpAny_bind (wpAny_pyNext_list_end hh st p.isList (by simp; omega) fun h' eb => wpAny_pure (hdone _ ?_))
    have e : xs.take i = xs := List.take_of_length_le (by omega)
    rw [e] at I f0
    exact I.turned (t' := s.toks) (fun b o hb e => eb b o hb e) f0 f1 f3 f4 f5
  | succ m ih =>
    intro i s hi I hf st
    refine codeAny_builtin PySem.F.entry_extend_loop ?_
    rw [Around.under_plainId PySem.F.plain_extend_loop _]
    show wpAny _ A1.in1 (pyNext (.ref it) >>= _) _ _ s
    obtain ⟨its, rv, p, _⟩ := I.list ((Ex.new hq).l hs)
    have hil : i < xs.length := by omega
    obtain ⟨u, hu, ru⟩ := rv.get (List.getElem?_eq_getElem hil)
    have hf' := hf
    obtain ⟨f0, f1, f2, f3, f4, f5⟩ := hf
    refine wpAny_bind (wpAny_pyNext_list_item st p.isList (x := u) (by simpa using hu) fun h' st' sb => ?_)
    have I1 : Inv X pins σ (upd H q (.lst (xs.take i))) { s with heap := h' } := I.turned (t' := s.toks) (fun b o hb e => (sb.2 b hb).trans e) f0 f1 f3 f4 f5
    show wpAny _ A1.in1 (updateSeq q (·.push u) >>= _) _ _ _
    obtain ⟨z, its2, n2, r2, hl2, e2⟩ := I1.lstM upd_same
    have hlt : (xs.take i).length = i := by rw [List.length_take]; omega
    refine wpAny_bind (wpAny_updateSeq e2 rfl (wpAny_pure ⟨plainId_quiet PySem.F.plain_extend_loop _, ?_⟩) (by rw [List.size_toArray]; omega) (by show (its2.toArray.push u).size ≤ sizeLine + 1; rw [Array.size_push, List.size_toArray]; omega))
    have I2 := I1.lset (f := (·.push u)) (its' := its2 ++ [u]) (ys := xs.take i ++ [xs[i]]) (t' := s.toks) upd_same e2 (by simp) (r2.append (.cons ru .nil)) (by rw [List.length_append, List.length_singleton]; omega)
    rw [upd_upd] at I2
    have et : xs.take i ++ [xs[i]] = xs.take (i + 1) := by rw [List.take_add_one, List.getElem?_eq_getElem hil]; rfl
    rw [et] at I2
    have hne : it ≠ q := fun z => by rw [z, upd_same] at f0; cases f0
    refine ih (i + 1) _ (by omega) I2 ⟨by rw [upd_ne hne] at f0 ⊢; exact f0, f1, f2, f3, f4, f5⟩ ?_
    obtain ⟨o, eo, co, do_⟩ := st'
    exact ⟨o, by rw [PySem.Heap.get?_update_ne _ _ _ _ hne]; exact eo, co, do_⟩
/-- what list(o) asks of the length -/
theorem len_hint {A : Around} {E : Value → Shared → Prop} {Q : Bool → Shared → Prop} {a dx : Addr} {fs : List (Str × V)} {v : V} {n : Nat} (hm : L2.Meth X.K C "__len__" fn) (F1 : FnOk X.prog X.w X.K X.mg X.base (L2.CX X.prog X.w) k fn fd ps (spLn X.K C gl)) (hb : L2.Binds X.K fd ps []) (hr : Room (k + 1) A) (e0 : Env0 X.prog X.w X.K X.mg X.base A X.stack s H)
    (I : Inv X pins σ H s) (ha : H a = some (.ins C dx fs)) (hf : fs.lookup gl = some v) (hv : LenX X.K v H n) (hn : n ≤ sizeLine) (q : ∀ b s', Inv X pins σ H s' → Q b s') :
    wpAny (model X.prog X.w) A (Builtin.List.listLengthHint (.ref a)) Q E s := by
  obtain ⟨ox, od, J, _⟩ := ins_at I ha
  obtain ⟨m, hF⟩ := I.fr
  have h63 : (n : Int) < 2 ^ 63 := by have := sizeLine_eq; omega
  unfold Builtin.List.listLengthHint
  refine wpAny_bind (wpAny_bind (J.type.here ((PySem.W.looks_findIn I.kIn hm.at_).here ?_)))
  refine PySem.W.KFB.if_not rfl ?_
  refine PySem.W.KFB.if_so rfl ?_
  refine wpAny_bind (wpAny_rule ?_)
  refine wpAny_bind (wpAny_attempt (PySem.W.len_K hF I.ok.mod.kin J hm.at_ hm.fn (wpAny_mono (run_calm (us := [.ref a]) (vs := [.ref a]) (Q := fun z H' => z = .int (n : Int) ∧ H' = H) (E' := fun _ _ => False) F1 hr.in1 e0.in1 hb I (.cons rfl .nil) ⟨a, dx, fs, v, n, rfl, ha, hf, hv, rfl, rfl⟩) (fun w s' z => ?_) fun _ _ z => z.elim)))
  obtain ⟨z', H', I', rz, rfl, rfl⟩ := z
  obtain ⟨t, rfl⟩ := rz
  refine ⟨⟨by omega, h63⟩, ?_⟩
  refine wpAny_bind (wpAny_pure ?_)
  refine PySem.W.KFB.if_not (by rw [Int.toNat_natCast]; exact notLongL hn) ?_
  exact wpAny_pure (q _ _ (I'.tok _))
/-- list(o) -/
def rListO (K : PySem.W.Frag) (C : Addr) (fl gl : Str) : List V → Hp → VK → Prop := fun xs H Q => ∃ a dx fs l zs v n, xs = [.ref a] ∧ H a = some (.ins C dx fs) ∧ fs.lookup fl = some (.ref l) ∧ SqL K H l zs ∧ zs.length ≤ sizeLine ∧ fs.lookup gl = some v ∧ LenX K v H n ∧ n ≤ sizeLine ∧ ∀ q, H q = none → Q (.ref q) (upd H q (.lst zs))
theorem call_listO (hi : L2.Meth X.K C "__iter__" fi) (FI : ItOk X.prog X.w X.K X.mg X.base k fi C fl) (hm : L2.Meth X.K C "__len__" fn) (F1 : FnOk X.prog X.w X.K X.mg X.base (L2.CX X.prog X.w) k fn fd ps (spLn X.K C gl)) (hb : L2.Binds X.K fd ps []) (hr : Room (k + 3) X.A) (hc : X.calm = true) :
    CallR X (.type "list") (rListO X.K C fl gl) := by
  intro pins s σ H xs us Q I rv h
  obtain ⟨a, dx, fs, l, zs, v, n, rfl, ha, hf, hq, hz, hg, hv, hn, qq⟩ := h
  obtain ⟨u, rfl, ru⟩ := rv.one
  cases ru
  have hh : X.A.in1.in1.handled = none := I.ok.hd hc
  refine callType_codes (Q₁ := fun obj s₁ => obj = .ref s.heap.objs.size ∧ s₁ = { s with heap := s.heap.push { cls := .type "list", data := .seq #[] } }) PySem.F.called_list (PySem.F.typeCall_list_1 _) PySem.F.entry_list_init
    (code_list_new _ ⟨rfl, rfl⟩) fun obj s₁ h₁ => ?_
  obtain ⟨rfl, rfl⟩ := h₁
  have hS : (s.heap.push { cls := .type "list", data := .seq #[] }).get? s.heap.objs.size = some { cls := .type "list", data := .seq #[] } := Heap.get?_push_size _ rfl
  refine ⟨⟨_, hS, rfl⟩, PySem.F.args_list_init_2 _ _, ?_⟩
  have fr : H s.heap.objs.size = none := I.hok.fresh (Nat.le_refl _)
  have I1 : Inv X pins σ (upd H s.heap.objs.size (.lst [])) { s with heap := s.heap.push { cls := .type "list", data := .seq #[] } } := I.lnew (its := []) (t' := s.toks) .nil (Nat.zero_le _)
  show wpAny _ _ (do let old ← Builtin.List.listItems (.ref s.heap.objs.size); Builtin.List.listUpdate (.ref s.heap.objs.size) (fun _ => #[]); letGo old.toList.reverse; Builtin.List.listExtendWith (.ref s.heap.objs.size) (.ref a) .none) _ _ _
  refine wpAny_bind ?_
  unfold Builtin.List.listItems
  refine wpAny_bind (wpAny_seqItems hS rfl (wpAny_pure ?_))
  show wpAny _ _ (updateSeq s.heap.objs.size (fun _ => #[]) >>= fun _ => letGo (#[] : Array Value).toList.reverse >>= fun _ => Builtin.List.listExtendWith (.ref s.heap.objs.size) (.ref a) .none) _ _ _
  refine wpAny_bind (wpAny_updateSeq hS rfl ?_)
  have I2 := I1.lset (f := fun _ => #[]) (its := []) (its' := []) (ys := []) (t' := s.toks) upd_same hS rfl .nil (Nat.zero_le _)
  rw [upd_upd] at I2
  refine wpAny_bind (wpAny_letGo ?_)
  generalize s.heap.objs.size = q at fr I2 qq hS ⊢
  generalize ({ heap := Heap.update _ q _, gens := _, drawn := _, toks := _, os := _ } : Shared) = s3 at I2 ⊢
  have ha2 : upd H q (.lst []) a = some (.ins C dx fs) := by rw [upd_ne (ne_of_none ha fr)]; exact ha
  have hq2 : SqL X.K (upd H q (.lst [])) l zs := (Ex.new fr).l hq
  have hne : q ≠ a := fun z => by rw [← z, fr] at ha; cases ha
  obtain ⟨ox, od, J, _⟩ := ins_at I2 ha2
  obtain ⟨m0, hF⟩ := I2.fr
  unfold Builtin.List.listExtendWith
  refine wpAny_bind (J.type.here ?_)
  have h1 : Builtin.List.listSameRef (.ref q) (.ref a) = false := by simp [Builtin.List.listSameRef, hne]
  have h2 : (Value.ref C == Value.type "list") = false := rfl
  have h3 : (Value.ref C == Value.type "tuple") = false := rfl
  simp only [h1, h2, h3, Bool.or_false, Bool.false_eq_true, if_false]
  have rr : Room (k + 1) X.A.in1.in1 := (show Room (k + 2) X.A.in1 from Room.in1 hr).in1
  refine wpAny_bind (PySem.W.owit_iter hF I2.ok.mod.kin J hi.at_ hi.fn (wpAny_mono (run_it (A := X.A.in1.in1) FI (rr.mono (by omega)) I2.env0.in1.in1 I2 ha2 hf hq2) (fun u s4 z => ?_) fun _ _ z => z))
  obtain ⟨it, rfl, hsz, hit, I4⟩ := z
  have hItO : upd (upd H q (.lst [])) it (ItO l it 0) it = some (ItO l it 0) := upd_same
  have hneI : it ≠ q := fun z => by rw [z, upd_same] at hit; cases hit
  refine it_next I4 hItO ?_
  have hItO' := hItO
  unfold ItO at hItO'
  have I5 := inv_drop I4 hItO'
  rw [dropH_upd hit] at I5
  have fp : FpOk X pins (upd H q (.lst [])) it := by
    have := inv_fp I4 hItO (Nat.le_trans I2.sz hsz)
    rw [dropH_upd hit] at this
    exact this
  have eo := itO_get I4 hItO
  have st : s4.heap.IsListIter it l 0 := ⟨_, eo, rfl, rfl⟩
  have hvq : LenX X.K v (upd H q (.lst [])) n := lenX_put hv fr
  have fin : ∀ s', Inv X pins σ (upd H q (.lst zs)) s' → wants (fun r s₂ => r = .none ∧ EP X pins σ Q (.ref q) s₂) X.xe (.ok (.ret .none)) s' := fun s' I' => ⟨rfl, .ref q, _, I', rfl, qq q fr⟩
  refine wpAny_bind (wpAny_holding (len_hint (A := X.A.in1.in1) hm F1 hb rr I4.env0.in1.in1 I4 (by rw [upd_ne (ne_of_none ha2 hit)]; exact ha2) hg (lenX_put hvq hit) hn fun b s5 I6 => ?_))
  have eo5 := itO_get I6 hItO
  have st5 : s5.heap.IsListIter it l 0 := ⟨_, eo5, rfl, rfl⟩
  have I7 := inv_drop I6 hItO'
  rw [dropH_upd hit] at I7
  obtain ⟨z, its, kk, r3, hl3, e3⟩ := I7.lstM upd_same
  cases r3
  refine wpAny_ite_split (fun _ => ?_) (fun _ => wpAny_pure ⟨plainId_quiet PySem.F.plain_extend_loop _, ext_loop (A1 := X.A.in1) hh fr hq hz fin zs.length 0 s5 (by omega) I7 fp st5⟩)
  refine wpAny_bind (wpAny_rule ?_)
  refine wpAny_bind ?_
  show wpAny _ _ (updateSeq q (·.push .none) >>= fun _ => updateSeq q (·.pop)) _ _ _
  refine wpAny_bind (wpAny_updateSeq e3 rfl ?_)
  have I8 := I7.lset (f := (·.push Value.none)) (its' := [Value.none]) (ys := [.non]) (t' := s5.toks) upd_same e3 (by simp) (.cons rfl .nil) (by rw [List.length_singleton, sizeLine_eq]; decide)
  obtain ⟨z4, its4, k4, r4, hl4, e4⟩ := I8.lstM upd_same
  obtain ⟨u4, rfl, ru4⟩ := r4.one
  refine wpAny_updateSeq e4 rfl ?_ (by show 1 ≤ sizeLine; rw [sizeLine_eq]; decide) (by show 0 ≤ sizeLine + 1; exact Nat.zero_le _)
  have I9 := I8.lset (f := (·.pop)) (its := [u4]) (its' := []) (ys := []) (t' := s5.toks) upd_same e4 (by rfl) .nil (Nat.zero_le _)
  rw [upd_upd, upd_upd] at I9
  refine wpAny_pure ⟨plainId_quiet PySem.F.plain_extend_loop _, ext_loop (A1 := X.A.in1) hh fr hq hz fin zs.length 0 _ (by omega) I9 fp ?_⟩
  obtain ⟨o, eo6, co, do_⟩ := st5
  exact ⟨o, by rw [PySem.Heap.get?_update_ne _ _ _ _ hneI, PySem.Heap.get?_update_ne _ _ _ _ hneI]; exact eo6, co, do_⟩
/-- an object of the class n: a list of the items of its list fl, where its gl has a length -/
noncomputable def listO (n fl gl : Str) (d : D) : Res D := match d with
  | .obj c ns vs => if c = n then (match lookF ns vs fl, lookF ns vs gl with
    | some (.lst ds), some (.lst es) => guard (ds.length ≤ sizeLine ∧ es.length ≤ sizeLine) (.ok (.lst ds))
    | some (.lst ds), some (.dt ks es) => guard (ds.length ≤ sizeLine ∧ ks.length ≤ sizeLine) (.ok (.lst ds))
    | _, _ => .bad) else .bad
  | _ => .bad
theorem cs_listO {c : Cf} {n : Str} (hcn : c.cm n = some C) : CallS c (mO c) (rListO c.K C fl gl) [true] (g1 (listO n fl gl)) := by
  intro σ S H vs ds Q ex m p
  obtain ⟨v, d, rfl, rfl, h⟩ := m.one
  replace p : PostG c σ S H (listO n fl gl d) (fun a S' H' => ∀ b, mO c H S' H' b a → Q b H') := p
  cases d with
  | obj c' ns vs =>
    unfold listO at p
    dsimp only at p
    split at p
    · rename_i hc
      subst hc
      split at p
      · rename_i ds es hd he
        obtain ⟨⟨z1, z2⟩, p⟩ := p.gd
        obtain ⟨q, C', dx, fs, rfl, h1, h2, rfl, h4⟩ := RpB.obj h ex
        rw [hcn] at h1; cases h1
        obtain ⟨v1, hv1, hr1⟩ := look_rp h4 hd
        obtain ⟨v2, hv2, hr2⟩ := look_rp h4 he
        cases hr1 with
        | @lst l xs _ a1 a2 =>
          cases hr2 with
          | @lst l2 ys _ b1 b2 =>
            exact ⟨q, dx, fs, l, xs, .ref l2, ys.length, rfl, h2, hv1, .inl (.inl (ex _ _ a1)), by rw [a2.length]; exact z1, hv2, .inl (.inl ⟨ys, .inl (.inl (ex _ _ b1)), rfl⟩), by rw [b2.length]; exact z2, fun q hq => PostG.kept p ex hq (.lst a2)⟩
      · rename_i ds ks es hd he
        obtain ⟨⟨z1, z2⟩, pk⟩ := p.gd
        obtain ⟨q, C', dx, fs, rfl, h1, h2, rfl, h4⟩ := RpB.obj h ex
        rw [hcn] at h1; cases h1
        obtain ⟨v1, hv1, hr1⟩ := look_rp h4 hd
        obtain ⟨v2, hv2, hr2⟩ := look_rp h4 he
        cases hr1 with
        | @lst l xs _ a1 a2 =>
          cases hr2 with
          | @dt l2 w kvs _ _ b1 b2 b3 =>
            subst b2
            exact ⟨q, dx, fs, l, xs, .ref l2, kvs.length, rfl, h2, hv1, .inl (.inl (ex _ _ a1)), by rw [a2.length]; exact z1, hv2, .inr ⟨l2, kvs, rfl, .inr ⟨_, ex _ _ b1⟩, rfl⟩, by simpa using z2, fun q hq => PostG.kept pk ex hq (.lst a2)⟩
      · exact p.elim
    · exact p.elim
  | _ => exact p.elim
end
end Dx
end S_DxP
section S_DxM
set_option Elab.async false
set_option linter.all false
set_option maxRecDepth 100000
namespace Dx
open PySem L2
def Rs {α : Type} (x : Res α) (Q : α → Prop) (E : Str → List Str → List D → Prop) : Prop := match x with
  | .ok a => Q a
  | .err n ns vs => E n ns vs
  | .bad => False
def nE : Str → List Str → List D → Prop := fun _ _ _ => False
def nE' : Rho → Str → List Str → List D → Prop := fun _ _ _ _ => False
def nR : Rho → Prop := fun _ => False
def Ss (o : SR) (N : Rho → Prop) (R : D → Prop) (B C : Rho → Prop) (E : Rho → Str → List Str → List D → Prop) : Prop := match o with
  | .nx r => N r
  | .rt d => R d
  | .bk r => B r
  | .ct r => C r
  | .er r n ns vs => E r n ns vs
  | .bad => False
section
variable {α β : Type} {Q Q' : α → Prop} {E E' : Str → List Str → List D → Prop}
theorem Rs.imp {x : Res α} (h : Rs x Q nE) (k : ∀ a, Q a → Q' a) : Rs x Q' E := by
  cases x with
  | ok a => exact k a h
  | err n ns vs => exact h.elim
  | bad => exact h.elim
theorem Rs.impE {x : Res α} (h : Rs x Q E) (k : ∀ a, Q a → Q' a) (l : ∀ n ns vs, E n ns vs → E' n ns vs) : Rs x Q' E' := by
  cases x with
  | ok a => exact k a h
  | err n ns vs => exact l _ _ _ h
  | bad => exact h.elim
theorem Rs.of {x : Res α} {a : α} (h : x = .ok a) (q : Q a) : Rs x Q E := by rw [h]; exact q
theorem Rs.ofE {x : Res α} {n : Str} {ns : List Str} {vs : List D} (h : x = .err n ns vs) (q : E n ns vs) : Rs x Q E := by rw [h]; exact q
theorem Rs.eq {x : Res α} {a : α} (h : Rs x (fun b => b = a) nE) : x = .ok a := by
  cases x with
  | ok b => exact congrArg _ h
  | err n ns vs => exact h.elim
  | bad => exact h.elim
theorem Rs.get {x : Res α} (h : Rs x Q nE) : ∃ a, x = .ok a ∧ Q a := by
  cases x with
  | ok a => exact ⟨a, rfl, h⟩
  | err n ns vs => exact h.elim
  | bad => exact h.elim
theorem Rs.errEq {x : Res α} {n : Str} {ns : List Str} {vs : List D} (h : Rs x (fun _ => False) fun a b c => a = n ∧ b = ns ∧ c = vs) : x = .err n ns vs := by
  cases x with
  | ok b => exact h.elim
  | err a b c => obtain ⟨rfl, rfl, rfl⟩ := h; rfl
  | bad => exact h.elim
theorem Rs.bind {x : Res β} {k : β → Res α} (h : Rs x (fun b => Rs (k b) Q E) E) : Rs (x.bind k) Q E := by
  cases x with
  | ok a => exact h
  | err n ns vs => exact h
  | bad => exact h
theorem rs_guard {p : Prop} {x : Res α} (h : p) (k : Rs x Q E) : Rs (guard p x) Q E := by rw [guard_pos h]; exact k
end
section
variable {Q : D → Prop} {E : Str → List Str → List D → Prop} {r : Rho} {f f1 f2 f3 : Rho → Res D} {fs : Rho → Res (List D)} {t u : Rho → Res Bool} {d : D} {i : Nat}
theorem rs_var (h : r[i]? = some (some d)) (q : Q d) : Rs (dVar i r) Q E := by unfold dVar; rw [h]; exact q
theorem rs_c (q : Q d) : Rs (dC d r) Q E := q
theorem rs_op {g : D → D → Res D} (h : Rs (f1 r) (fun a => Rs (f2 r) (fun b => Rs (g a b) Q E) E) E) : Rs (dOp g f1 f2 r) Q E := Rs.bind (h.impE (fun a q => Rs.bind q) fun _ _ _ z => z)
theorem rs_str {g : D → D → Res D} (h : Rs (f1 r) (fun a => Rs (asS a) (fun _ => Rs (f2 r) (fun b => Rs (g a b) Q E) E) E) E) : Rs (dStr g f1 f2 r) Q E := Rs.bind (h.impE (fun a q => Rs.bind (q.impE (fun _ q => Rs.bind q) fun _ _ _ z => z)) fun _ _ _ z => z)
theorem rs_asS {z : Str} {Q : Str → Prop} (q : Q z) : Rs (asS (.str z)) Q E := q
theorem rs_un {g : D → Res D} (h : Rs (f r) (fun a => Rs (g a) Q E) E) : Rs (dUn g f r) Q E := Rs.bind h
theorem rs_nil {Q : List D → Prop} (q : Q []) : Rs (dNil r) Q E := q
theorem rs_cons {Q : List D → Prop} (h : Rs (f r) (fun x => Rs (fs r) (fun xs => Q (x :: xs)) E) E) : Rs (dCons f fs r) Q E := Rs.bind (h.impE (fun a q => Rs.bind q) fun _ _ _ z => z)
theorem rs_call {g : List D → Res D} (h : Rs (fs r) (fun ds => Rs (g ds) Q E) E) : Rs (dCall g fs r) Q E := Rs.bind h
theorem rs_tup (h : Rs (fs r) (fun ds => ds.length ≤ sizeLine ∧ Q (.tup ds)) E) : Rs (dTup fs r) Q E := Rs.bind (h.impE (fun ds q => rs_guard q.1 q.2) fun _ _ _ z => z)
theorem rs_lst (h : Rs (fs r) (fun ds => ds.length ≤ sizeLine ∧ Q (.lst ds)) E) : Rs (dLst fs r) Q E := Rs.bind (h.impE (fun ds q => rs_guard q.1 q.2) fun _ _ _ z => z)
theorem rs_T {Q : Bool → Prop} (h : Rs (f r) (fun d => Rs (asB d) Q E) E) : Rs (dT f r) Q E := Rs.bind h
theorem rs_asB {b : Bool} {Q : Bool → Prop} (q : Q b) : Rs (asB (.bl b)) Q E := q
theorem rs_asI {b : Int} {Q : Int → Prop} (q : Q b) : Rs (asI (.int b)) Q E := q
theorem rs_not {Q : Bool → Prop} (h : Rs (t r) (fun b => Q (!b)) E) : Rs (dNot t r) Q E := Rs.bind h
theorem rs_and {Q : Bool → Prop} (h : Rs (t r) (fun a => Rs (u r) (fun b => Q (a && b)) nE) E) : Rs (dAnd t u r) Q E := Rs.bind (h.impE (fun a q => by
  cases a
  · obtain ⟨b, _, q⟩ := q.get
    exact q
  · exact q.impE (fun _ z => z) fun _ _ _ z => z.elim) fun _ _ _ z => z)
theorem rs_or {Q : Bool → Prop} (h : Rs (t r) (fun a => Rs (u r) (fun b => Q (a || b)) nE) E) : Rs (dOr t u r) Q E := Rs.bind (h.impE (fun a q => by
  cases a
  · exact q.impE (fun _ z => z) fun _ _ _ z => z.elim
  · obtain ⟨b, _, q⟩ := q.get
    exact q) fun _ _ _ z => z)
theorem rs_andc {Q : Bool → Prop} (h : Rs (t r) (fun a => (a = true → Rs (u r) Q E) ∧ (a = false → Q false)) E) : Rs (dAnd t u r) Q E := Rs.bind (h.impE (fun a q => by
  cases a
  · exact q.2 rfl
  · exact q.1 rfl) fun _ _ _ z => z)
theorem rs_orc {Q : Bool → Prop} (h : Rs (t r) (fun a => (a = true → Q true) ∧ (a = false → Rs (u r) Q E)) E) : Rs (dOr t u r) Q E := Rs.bind (h.impE (fun a q => by
  cases a
  · exact q.2 rfl
  · exact q.1 rfl) fun _ _ _ z => z)
theorem rs_andV (h : Rs (f1 r) (fun a => Rs (asB a) (fun a => Rs (f2 r) (fun b => Rs (asB b) (fun b => Q (.bl (a && b))) nE) nE) E) E) : Rs (dAndV f1 f2 r) Q E := Rs.bind (h.impE (fun a q => Rs.bind (q.impE (fun a q => by
  obtain ⟨b, e, q⟩ := q.get
  cases b with
  | bl b =>
    cases a
    · exact q
    · exact Rs.of e q
  | _ => exact q.elim) fun _ _ _ z => z)) fun _ _ _ z => z)
theorem rs_orV (h : Rs (f1 r) (fun a => Rs (asB a) (fun a => Rs (f2 r) (fun b => Rs (asB b) (fun b => Q (.bl (a || b))) nE) nE) E) E) : Rs (dOrV f1 f2 r) Q E := Rs.bind (h.impE (fun a q => Rs.bind (q.impE (fun a q => by
  obtain ⟨b, e, q⟩ := q.get
  cases b with
  | bl b =>
    cases a
    · exact Rs.of e q
    · exact q
  | _ => exact q.elim) fun _ _ _ z => z)) fun _ _ _ z => z)
theorem rs_andVc (h : Rs (f1 r) (fun a => Rs (asB a) (fun a => (a = true → Rs (f2 r) Q E) ∧ (a = false → Q (.bl false))) E) E) : Rs (dAndV f1 f2 r) Q E := Rs.bind (h.impE (fun a q => Rs.bind (q.impE (fun a q => by
  cases a
  · exact q.2 rfl
  · exact q.1 rfl) fun _ _ _ z => z)) fun _ _ _ z => z)
theorem rs_orVc (h : Rs (f1 r) (fun a => Rs (asB a) (fun a => (a = true → Q (.bl true)) ∧ (a = false → Rs (f2 r) Q E)) E) E) : Rs (dOrV f1 f2 r) Q E := Rs.bind (h.impE (fun a q => Rs.bind (q.impE (fun a q => by
  cases a
  · exact q.2 rfl
  · exact q.1 rfl) fun _ _ _ z => z)) fun _ _ _ z => z)
theorem rs_notV (h : Rs (f r) (fun a => Rs (asB a) (fun b => Q (.bl (!b))) E) E) : Rs (dNotV f r) Q E := Rs.bind (h.impE (fun a q => Rs.bind q) fun _ _ _ z => z)
theorem rs_ifx {α : Type} {Q : α → Prop} {f g : Rho → Res α} (h : Rs (t r) (fun b => (b = true → Rs (f r) Q E) ∧ (b = false → Rs (g r) Q E)) E) : Rs (dIf t f g r) Q E := Rs.bind (h.impE (fun a q => by
  cases a
  · exact q.2 rfl
  · exact q.1 rfl) fun _ _ _ z => z)
theorem rs_tru {Q : Bool → Prop} (h : Rs (f r) (fun d => Rs (truB d) Q E) E) : Rs (dTru f r) Q E := Rs.bind h
theorem rs_truB {b : Bool} {Q : Bool → Prop} (q : Q b) : Rs (truB (.bl b)) Q E := q
theorem rs_truI {b : Int} {Q : Bool → Prop} (q : Q (b != 0)) : Rs (truB (.int b)) Q E := q
theorem rs_truL {ds : List D} {Q : Bool → Prop} (q : Q (!ds.isEmpty)) : Rs (truB (.lst ds)) Q E := q
theorem rs_truT {ds : List D} {Q : Bool → Prop} (q : Q (!ds.isEmpty)) : Rs (truB (.tup ds)) Q E := q
theorem rs_truN {Q : Bool → Prop} (q : Q false) : Rs (truB .non) Q E := q
theorem rs_chain {g g' : D → D → Res D} (h : Rs (f1 r) (fun x => Rs (f2 r) (fun y => Rs (g x y) (fun z => Rs (asB z) (fun a => Rs (f3 r) (fun w => Rs (g' y w) (fun e => Rs (asB e) (fun b => Q (.bl (a && b))) nE) nE) nE) E) E) E) E) : Rs (dChain g g' f1 f2 f3 r) Q E :=
  Rs.bind (h.impE (fun x q => Rs.bind (q.impE (fun y q => Rs.bind (q.impE (fun z q => Rs.bind (q.impE (fun a q => by
    obtain ⟨w, e1, q⟩ := q.get
    obtain ⟨e, e2, q⟩ := q.get
    cases e with
    | bl b =>
      cases a
      · exact q
      · exact Rs.bind (Rs.of e1 (Rs.of e2 q))
    | _ => exact q.elim) fun _ _ _ z => z)) fun _ _ _ z => z)) fun _ _ _ z => z)) fun _ _ _ z => z)
theorem rs_noP {Q : Option Int → Prop} (q : Q none) : Rs (dNoP r) Q E := q
theorem rs_part {Q : Option Int → Prop} (h : Rs (f r) (fun d => Rs (asI d) (fun i => Q (some i)) E) E) : Rs (dPart f r) Q E := Rs.bind (h.impE (fun a q => Rs.bind q) fun _ _ _ z => z)
theorem rs_sl {g : D → Option Int → Option Int → Res D} {fl fh : Rho → Res (Option Int)} (h : Rs (f r) (fun d => Rs (fl r) (fun l => Rs (fh r) (fun k => Rs (g d l k) Q E) E) E) E) : Rs (dSl g f fl fh r) Q E := Rs.bind (h.impE (fun a q => Rs.bind (q.impE (fun _ q => Rs.bind q) fun _ _ _ z => z)) fun _ _ _ z => z)
theorem rs_it {g : D → Res (List D)} {Q : List D → Prop} (h : Rs (f r) (fun d => Rs (g d) Q E) E) : Rs (dIt g f r) Q E := Rs.bind h
theorem rs_its {g : List D → Res (List D)} {Q : List D → Prop} (h : Rs (fs r) (fun d => Rs (g d) Q E) E) : Rs (dIts g fs r) Q E := Rs.bind h
theorem rs_yes {Q : Bool → Prop} (q : Q true) : Rs (dYes r) Q E := q
theorem rs_meth {n m : Str} {F : List D → Res D} (h : Rs (f r) (fun x => Rs (isObj n m x) (fun _ => Rs (fs r) (fun ds => Rs (F (x :: ds)) Q E) E) E) E) : Rs (dMeth n m F f fs r) Q E := Rs.bind (h.impE (fun a q => Rs.bind (q.impE (fun _ q => Rs.bind q) fun _ _ _ z => z)) fun _ _ _ z => z)
theorem rs_isObj {n m : Str} {ns : List Str} {vs : List D} {Q : Unit → Prop} (h : m ∉ ns) (q : Q ()) : Rs (isObj n m (.obj n ns vs)) Q E := by
  show Rs (if n = n ∧ m ∉ ns then .ok () else .bad) Q E
  rw [if_pos ⟨rfl, h⟩]; exact q
theorem rs_fld {n fl : Str} {ns : List Str} {vs : List D} (h : lookF ns vs fl = some d) (q : Q d) : Rs (fldD n fl (.obj n ns vs)) Q E := by
  show Rs (if n = n then (match lookF ns vs fl with | some d => .ok d | none => .bad) else .bad) Q E
  rw [if_pos rfl, h]; exact q
end
abbrev Sg (l : List Nat) : Str := ⟨l.toArray⟩
theorem ST_len (l : List Nat) : (Sg l).length = l.length := by simp [Sg, Str.length]
theorem ST_app (a b : List Nat) : Sg a ++ Sg b = Sg (a ++ b) := TL.ext_tl (by rw [TL.tl_append])
theorem ST_inj {a b : List Nat} : Sg a = Sg b ↔ a = b := ⟨fun h => congrArg TL.tl h, fun h => by rw [h]⟩
theorem ST_dec (a b : List Nat) : decide (Sg a = Sg b) = decide (a = b) := by
  by_cases h : a = b
  · subst h; simp
  · simp [h, ST_inj]
section
variable {Q : D → Prop} {E : Str → List Str → List D → Prop} {i j : Int} {a b : List Nat} {ds es : List D} {d e : D}
theorem rs_add (q : Q (.int (i + j))) : Rs (addD (.int i) (.int j)) Q E := q
theorem rs_addS (h : a.length + b.length ≤ sizeLine) (q : Q (.str (Sg (a ++ b)))) : Rs (addD (.str (Sg a)) (.str (Sg b))) Q E := rs_guard (by rw [ST_len, ST_len]; exact h) (by rw [ST_app]; exact q)
theorem rs_addT (h : ds.length + es.length ≤ sizeLine) (q : Q (.tup (ds ++ es))) : Rs (addD (.tup ds) (.tup es)) Q E := rs_guard h q
theorem rs_addLL (h : ds.length + es.length ≤ sizeLine) (q : Q (.lst (ds ++ es))) : Rs (addD (.lst ds) (.lst es)) Q E := rs_guard h q
theorem rs_addLO (h : ds.length + es.length ≤ sizeLine) (q : Q (.lst (ds ++ es))) : Rs (addL (.lst ds) (.lst es)) Q E := rs_guard h q
theorem rs_sub (q : Q (.int (i - j))) : Rs (subD (.int i) (.int j)) Q E := q
theorem rs_neg (q : Q (.int (-i))) : Rs (negD (.int i)) Q E := q
theorem rs_mul (h : smallI i ∨ smallI j) (q : Q (.int (i * j))) : Rs (mulX (.int i) (.int j)) Q E := rs_guard h q
theorem rs_fdiv (h : 0 < j ∧ j < 4611686018427387904) (q : Q (.int (i / j))) : Rs (fdivD (.int i) (.int j)) Q E := by
  show Rs (if 0 < j then guard (j < 4611686018427387904) (.ok (.int (i / j))) else _) Q E
  rw [if_pos h.1]; exact rs_guard h.2 q
theorem rs_mod (h : 0 < j) (q : Q (.int (i % j))) : Rs (modD (.int i) (.int j)) Q E := rs_guard h q
theorem rs_eqI (q : Q (.bl (decide (i = j)))) : Rs (eqD (.int i) (.int j)) Q E := q
theorem rs_neI (q : Q (.bl (!decide (i = j)))) : Rs (neD (.int i) (.int j)) Q E := q
theorem rs_eqS (q : Q (.bl (decide (a = b)))) : Rs (eqD (.str (Sg a)) (.str (Sg b))) Q E := by
  show Q (.bl (decide (Sg a = Sg b)))
  rw [ST_dec]; exact q
theorem rs_neS (q : Q (.bl (!decide (a = b)))) : Rs (neD (.str (Sg a)) (.str (Sg b))) Q E := by
  show Q (.bl (!decide (Sg a = Sg b)))
  rw [ST_dec]; exact q
theorem rs_eqB {x y : Bool} (q : Q (.bl (decide (x = y)))) : Rs (eqD (.bl x) (.bl y)) Q E := q
theorem rs_neB {x y : Bool} (q : Q (.bl (!decide (x = y)))) : Rs (neD (.bl x) (.bl y)) Q E := q
theorem rs_lt (q : Q (.bl (decide (i < j)))) : Rs (ltD (.int i) (.int j)) Q E := q
theorem rs_le (q : Q (.bl (decide (i ≤ j)))) : Rs (leD (.int i) (.int j)) Q E := q
theorem rs_gt (q : Q (.bl (decide (j < i)))) : Rs (gtD (.int i) (.int j)) Q E := q
theorem rs_ge (q : Q (.bl (decide (j ≤ i)))) : Rs (geD (.int i) (.int j)) Q E := q
theorem rs_is (q : Q (.bl (isN d))) : Rs (isD false d .non) Q E := q
theorem rs_isn (q : Q (.bl (!isN d))) : Rs (isD true d .non) Q E := q
theorem rs_inS {n : Nat} (q : Q (.bl (decide (n ∈ b)))) : Rs (inD (.str (Sg [n])) (.str (Sg b))) Q E := q
theorem rs_ninS {n : Nat} (q : Q (.bl (!decide (n ∈ b)))) : Rs (ninD (.str (Sg [n])) (.str (Sg b))) Q E := q
theorem rs_lenS (h : a.length ≤ sizeLine) (q : Q (.int a.length)) : Rs (g1 lenD [.str (Sg a)]) Q E := rs_guard (by rw [ST_len]; exact h) (by show Q _; rw [ST_len]; exact q)
theorem rs_lenL (q : Q (.int ds.length)) : Rs (g1 lenD [.lst ds]) Q E := q
theorem rs_lenF (q : Q (.int ds.length)) : Rs (g1 lenD [.fz ds]) Q E := q
theorem rs_lenT (q : Q (.int ds.length)) : Rs (g1 lenD [.tup ds]) Q E := q
theorem rs_int (q : Q (.int i)) : Rs (g1 intD [.int i]) Q E := q
theorem rs_intB {x : Bool} (q : Q (.int (if x then 1 else 0))) : Rs (g1 intD [.bl x]) Q E := q
theorem rs_abs (q : Q (.int (if i < 0 then -i else i))) : Rs (g1 absD [.int i]) Q E := q
theorem rs_listL (q : Q (.lst ds)) : Rs (g1 listD [.lst ds]) Q E := q
theorem rs_listT (q : Q (.lst ds)) : Rs (g1 listD [.tup ds]) Q E := q
theorem rs_tupL (q : Q (.tup ds)) : Rs (g1 tupleD [.lst ds]) Q E := q
theorem rs_tupT (q : Q (.tup ds)) : Rs (g1 tupleD [.tup ds]) Q E := q
theorem rs_ixL (h : atI ds i = some d) (q : Q d) : Rs (ixD (.lst ds) (.int i)) Q E := by
  show Rs (match atI ds i with | some d => Res.ok d | none => Res.bad) Q E
  rw [h]; exact q
theorem rs_ixF (h : atI ds i = some d) (q : Q d) : Rs (ixD (.fz ds) (.int i)) Q E := by
  show Rs (match atI ds i with | some d => Res.ok d | none => Res.bad) Q E
  rw [h]; exact q
theorem rs_ixT (h : atI ds i = some d) (q : Q d) : Rs (ixD (.tup ds) (.int i)) Q E := by
  show Rs (match atI ds i with | some d => Res.ok d | none => Res.bad) Q E
  rw [h]; exact q
theorem rs_ixS {n : Nat} (h : a.length ≤ sizeLine ∧ atI a i = some n) (q : Q (.str (Sg [n]))) : Rs (ixD (.str (Sg a)) (.int i)) Q E := rs_guard (by rw [ST_len]; exact h.1) (by
  show Rs (match atI a i with | some n => Res.ok (D.str ⟨#[n]⟩) | none => Res.bad) Q E
  rw [h.2]; exact q)
theorem rs_slL {lo hi : Option Int} (q : Q (.lst (cutL ds lo hi))) : Rs (slD (.lst ds) lo hi) Q E := q
theorem rs_slO {lo hi : Option Int} (q : Q (.lst (cutL ds lo hi))) : Rs (slL (.lst ds) lo hi) Q E := q
theorem rs_slT {lo hi : Option Int} (q : Q (.tup (cutL ds lo hi))) : Rs (slD (.tup ds) lo hi) Q E := q
theorem cutS_ST {lo hi : Option Int} : cutS (Sg a) lo hi = Sg (cutL a lo hi) := by
  unfold cutS cutL
  rw [ST_len]
theorem rs_slS {lo hi : Option Int} (h : a.length ≤ sizeLine) (q : Q (.str (Sg (cutL a lo hi)))) : Rs (slD (.str (Sg a)) lo hi) Q E := rs_guard (by rw [ST_len]; exact h) (by rw [cutS_ST]; exact q)
theorem rs_rng1 {n : Nat} {Q : List D → Prop} (h : n < 4611686018427387904) (q : Q (rngL 0 n)) : Rs (rng1 [.int (n : Int)]) Q E := rs_guard (by omega) (by rw [Int.toNat_natCast]; exact q)
theorem rs_itsL {Q : List D → Prop} (q : Q ds) : Rs (itemsL (.lst ds)) Q E := q
theorem rs_itsT {Q : List D → Prop} (q : Q ds) : Rs (itemsT (.tup ds)) Q E := q
theorem rs_itsS {Q : List D → Prop} (q : Q (a.map fun n => .str (Sg [n]))) : Rs (itemsS (.str (Sg a))) Q E := q
theorem rs_enL {Q : List D → Prop} (q : Q (numd 0 ds)) : Rs (enumL (.lst ds)) Q E := q
theorem rs_enT {Q : List D → Prop} (q : Q (numd 0 ds)) : Rs (enumT (.tup ds)) Q E := q
theorem rs_enS {Q : List D → Prop} (q : Q (numd 0 (a.map fun n => .str (Sg [n])))) : Rs (enumS (.str (Sg a))) Q E := q
theorem rs_isi {T n : String} {b : Bool} (h1 : tyN d = some n) (h2 : kitB n T = some b) (q : Q (.bl b)) : Rs (isiD T d) Q E := by unfold isiD; rw [h1]; dsimp only; rw [h2]; exact q
end
section
variable {N B C : Rho → Prop} {R : D → Prop} {E : Rho → Str → List Str → List D → Prop} {r : Rho} {f f1 f2 fi : Rho → Res D} {fs : Rho → Res (List D)} {t : Rho → Res Bool} {d : D} {F K : Rho → SR} {i j : Nat}
theorem Ss.imp {N' B' C' : Rho → Prop} {R' : D → Prop} {E' : Rho → Str → List Str → List D → Prop} {o : SR} (h : Ss o N R B C E) (hn : ∀ r, N r → N' r) (hr : ∀ d, R d → R' d) (hb : ∀ r, B r → B' r) (hc : ∀ r, C r → C' r) (he : ∀ r n ns vs, E r n ns vs → E' r n ns vs) : Ss o N' R' B' C' E' := by
  cases o with
  | nx r => exact hn _ h
  | rt d => exact hr _ h
  | bk r => exact hb _ h
  | ct r => exact hc _ h
  | er r n ns vs => exact he _ _ _ _ h
  | bad => exact h
theorem ss_nx (h : N r) : Ss (.nx r) N R B C E := h
theorem ss_bk (h : B r) : Ss (.bk r) N R B C E := h
theorem ss_ct (h : C r) : Ss (.ct r) N R B C E := h
theorem ss_lift {α : Type} {x : Res α} {k : α → SR} (h : Rs x (fun a => Ss (k a) N R B C E) (E r)) : Ss (liftS r x k) N R B C E := by
  cases x with
  | ok a => exact h
  | err n ns vs => exact h
  | bad => exact h
theorem ss_seq (h : Ss (F r) (fun r' => Ss (K r') N R B C E) R B C E) : Ss (seqF F K r) N R B C E := by
  unfold seqF
  cases e : F r with
  | nx r' => rw [e] at h; exact h
  | rt d => rw [e] at h; exact h
  | bk r => rw [e] at h; exact h
  | ct r => rw [e] at h; exact h
  | er r n ns vs => rw [e] at h; exact h
  | bad => rw [e] at h; exact h
theorem ss_set (h : Rs (f r) (fun d => N (r.set i (some d))) (E r)) : Ss (setF i f r) N R B C E := ss_lift h
theorem ss_ret (h : Rs (f r) R (E r)) : Ss (retF f r) N R B C E := ss_lift h
theorem ss_drop (h : Rs (f r) (fun _ => N r) (E r)) : Ss (dropF f r) N R B C E := ss_lift h
theorem ss_if (h : Rs (t r) (fun b => (b = true → Ss (F r) N R B C E) ∧ (b = false → Ss (K r) N R B C E)) (E r)) : Ss (ifF t F K r) N R B C E := ss_lift (h.impE (fun b q => by
  cases b
  · exact q.2 rfl
  · exact q.1 rfl) fun _ _ _ z => z)
theorem ss_app {ds : List D} (h1 : r[i]? = some (some (.lst ds))) (h : Rs (f r) (fun d => ds.length < sizeLine ∧ N (r.set i (some (.lst (ds ++ [d]))))) (E r)) : Ss (appF i f r) N R B C E := by
  unfold appF
  refine ss_lift (Rs.of (a := ds) (by unfold ownL; rw [h1]) (ss_lift (h.impE (fun d q => ?_) fun _ _ _ z => z)))
  rw [guardS_pos q.1]; exact q.2
theorem ss_par (h : Rs (f1 r) (fun d => Rs (f2 r) (fun e => N ((r.set i (some d)).set j (some e))) (E r)) (E r)) : Ss (parF i j f1 f2 r) N R B C E := ss_lift (rs_cons (h.impE (fun d q => rs_cons (q.impE (fun e q => rs_nil q) fun _ _ _ z => z)) fun _ _ _ z => z))
theorem ss_aug {g : D → D → Res D} (h : Rs (dVar i r) (fun x => Rs (f r) (fun y => Rs (g x y) (fun z => N (r.set i (some z))) (E r)) (E r)) (E r)) : Ss (augF i g f r) N R B C E := ss_lift (h.impE (fun x q => ss_lift (q.impE (fun y q => ss_lift q) fun _ _ _ z => z)) fun _ _ _ z => z)
theorem rs_ints {g : Int → Int → Int} {Q : D → Prop} {E : Str → List Str → List D → Prop} {i j : Int} (q : Q (.int (g i j))) : Rs (intsD g (.int i) (.int j)) Q E := q
theorem ss_raise {n : Str} {ns : List Str} {rev : Bool} (h : Rs (fs r) (fun ds => ds.length = ns.length ∧ E r n ns (if rev then ds.reverse else ds)) (E r)) : Ss (raiF n ns rev fs r) N R B C E := ss_lift (h.impE (fun ds q => by
  rw [if_pos q.1]; exact q.2) fun _ _ _ z => z)
theorem ss_sto {ds : List D} {k : Int} {n : Nat} (h : Rs (f r) (fun d => r[i]? = some (some (.lst ds)) ∧ Rs (fi r) (fun x => x = .int k ∧ ixN ds.length k = some n ∧ N (r.set i (some (.lst (ds.set n d))))) (E r)) (E r)) : Ss (stoF i fi f r) N R B C E := ss_lift (h.impE (fun d q => ss_lift (Rs.of (a := ds) (by unfold ownL; rw [q.1]) (ss_lift (q.2.impE (fun x q => by
  obtain ⟨rfl, h2, h3⟩ := q
  refine ss_lift ?_
  show Ss (match ixN ds.length k with | some j => SR.nx (r.set i (some (.lst (ds.set j d)))) | none => .bad) N R B C E
  rw [h2]; exact h3) fun _ _ _ z => z)))) fun _ _ _ z => z)
theorem ss_fst {n fl : Str} {ns : List Str} {vs : List D} (h : Rs (f r) (fun d => r[i]? = some (some (.obj n ns vs)) ∧ ns.length < 1000 ∧ N (r.set i (some (.obj n (putN fl d ns vs).1 (putN fl d ns vs).2)))) (E r)) : Ss (fstF i n fl f r) N R B C E := ss_lift (h.impE (fun d q => by
  rw [q.1]
  show Ss (if n = n ∧ ns.length < 1000 then _ else _) N R B C E
  rw [if_pos ⟨rfl, q.2.1⟩]; exact q.2.2) fun _ _ _ z => z)
theorem ss_match2 {ds : List D} (h : Rs (f r) (fun d => d = .lst ds ∧ ((∃ a b, ds = [a, b] ∧ Ss (F ((r.set i (some a)).set j (some b))) N R B C E) ∨ (ds.length ≠ 2 ∧ N r))) (E r)) : Ss (match2F i j f F r) N R B C E := ss_lift (h.impE (fun d q => by
  obtain ⟨rfl, ⟨a, b, rfl, q⟩ | ⟨q1, q2⟩⟩ := q
  · exact q
  · match ds, q1 with
    | [], _ => exact q2
    | [_], _ => exact q2
    | [_, _], q1 => exact absurd rfl q1
    | _ :: _ :: _ :: _, _ => exact q2) fun _ _ _ z => z)
/-- where the two ways of an if meet -/
theorem ss_join {N' : Rho → Prop} {b : Bool} {X Y : SR} (M : Rho → Prop) (h1 : b = true → Ss X M R B C E) (h2 : b = false → Ss Y M R B C E) (k : ∀ r, M r → N' r) : (b = true → Ss X N' R B C E) ∧ (b = false → Ss Y N' R B C E) :=
  ⟨fun h => (h1 h).imp k (fun _ z => z) (fun _ z => z) (fun _ z => z) fun _ _ _ _ z => z, fun h => (h2 h).imp k (fun _ z => z) (fun _ z => z) (fun _ z => z) fun _ _ _ _ z => z⟩
theorem ss_loop {tg : D → Rho → Res Rho} (I : Nat → Rho → Prop) : ∀ (ds : List D) (k : Nat) (r : Rho), I k r →
    (∀ i d r, ds[i]? = some d → I (k + i) r → ∃ r1, tg d r = .ok r1 ∧ Ss (F r1) (I (k + i + 1)) R N (I (k + i + 1)) E) → (∀ r, I (k + ds.length) r → N r) → Ss (loopF tg F ds r) N R B C E
  | [], k, r, h0, _, he => he r h0
  | d :: ds, k, r, h0, hs, he => by
    obtain ⟨r1, e1, h1⟩ := hs 0 d r rfl h0
    have go : ∀ r2, I (k + 1) r2 → Ss (loopF tg F ds r2) N R B C E := fun r2 h2 => ss_loop I ds (k + 1) r2 h2 (fun i d r h hi => by
      have z := hs (i + 1) d r (by simpa using h) (by rw [show k + (i + 1) = k + 1 + i from by omega]; exact hi)
      rw [show k + (i + 1) = k + 1 + i from by omega] at z
      exact z) fun r h => he r (by rw [List.length_cons, show k + (ds.length + 1) = k + 1 + ds.length from by omega]; exact h)
    rw [loopF, e1]
    dsimp only
    cases e : F r1 with
    | nx r2 => rw [e] at h1; exact go r2 h1
    | ct r2 => rw [e] at h1; exact go r2 h1
    | bk r2 => rw [e] at h1; exact h1
    | rt d => rw [e] at h1; exact h1
    | er r n ns vs => rw [e] at h1; exact h1
    | bad => rw [e] at h1; exact h1
/-- a for, by an invariant at each number of items -/
theorem ss_for {its : Rho → Res (List D)} {tg : D → Rho → Res Rho} (I : Nat → Rho → Prop) (h : Rs (its r) (fun ds => I 0 r ∧ (∀ i d r, ds[i]? = some d → I i r → ∃ r1, tg d r = .ok r1 ∧ Ss (F r1) (I (i + 1)) R N (I (i + 1)) E) ∧ ∀ r, I ds.length r → N r) (E r)) : Ss (forF its tg F r) N R B C E :=
  ss_lift (h.impE (fun ds q => ss_loop I ds 0 r q.1 (fun i d r h1 h2 => by
    have z := q.2.1 i d r h1 (by rw [Nat.zero_add] at h2; exact h2)
    rw [Nat.zero_add]; exact z) fun r h => q.2.2 r (by rw [Nat.zero_add] at h; exact h)) fun _ _ _ z => z)
theorem rngL_get {a : Int} {n i : Nat} {d : D} (h : (rngL a n)[i]? = some d) : i < n ∧ d = .int (a + (i : Int)) := by
  unfold rngL at h
  rw [List.getElem?_map] at h
  by_cases hi : i < n
  · rw [List.getElem?_range hi] at h
    cases h
    exact ⟨hi, rfl⟩
  · rw [List.getElem?_eq_none (by simp; omega)] at h
    cases h
theorem rngL_len (a : Int) (n : Nat) : (rngL a n).length = n := by unfold rngL; simp
/-- for k in range(n) -/
theorem ss_rng {m : Nat} (n : Nat) (I : Nat → Rho → Prop) (h : Rs (f r) (fun d => d = .int (n : Int)) (E r)) (hn : n < 4611686018427387904) (h0 : I 0 r) (hs : ∀ i r, i < n → I i r → Ss (F (r.set m (some (.int (i : Int))))) (I (i + 1)) R N (I (i + 1)) E) (he : ∀ r, I n r → N r) : Ss (forF (dIts rng1 (dCons f dNil)) (tgN m) F r) N R B C E :=
  ss_for I (rs_its (rs_cons (h.impE (fun d q => by
    subst q
    refine rs_nil (rs_rng1 hn ⟨h0, fun i d r h1 h2 => ?_, fun r h => he r (by rw [rngL_len] at h; exact h)⟩)
    obtain ⟨h3, rfl⟩ := rngL_get h1
    exact ⟨_, rfl, by rw [Int.zero_add]; exact hs i r h3 h2⟩) fun _ _ _ z => z)))
/-- for x in xs -/
theorem ss_each {α : Type} {m : Nat} (g : α → D) (xs : List α) (I : Nat → Rho → Prop) (h : Rs (f r) (fun d => d = .lst (xs.map g)) (E r)) (h0 : I 0 r) (hs : ∀ i x r, xs[i]? = some x → I i r → Ss (F (r.set m (some (g x)))) (I (i + 1)) R N (I (i + 1)) E) (he : ∀ r, I xs.length r → N r) : Ss (forF (dIt itemsL f) (tgN m) F r) N R B C E :=
  ss_for I (rs_it (h.impE (fun d q => by
    subst q
    refine rs_itsL ⟨h0, fun i d r h1 h2 => ?_, fun r h => he r (by rw [List.length_map] at h; exact h)⟩
    rw [List.getElem?_map] at h1
    cases hx : xs[i]? with
    | none => rw [hx] at h1; cases h1
    | some x => rw [hx] at h1; cases h1; exact ⟨_, rfl, hs i x r hx h2⟩) fun _ _ _ z => z))
end
section
variable {Q : D → Prop} {E : Str → List Str → List D → Prop} {r : Rho} {f : Rho → Res D} {its : Rho → Res (List D)} {tg : D → Rho → Res Rho} {tt : Rho → Res Bool} {fe : Rho → Res D} {vs : List Nat}
theorem lc_mapX {α : Type} (c g : α → D) {rw : Rho} : ∀ xs : List α, (∀ x ∈ xs, ∃ r1, tg (c x) rw = .ok r1 ∧ tt r1 = .ok true ∧ Rs (fe r1) (fun e => e = g x) nE) → lcLoop tg tt fe rw (xs.map c) = .ok (xs.map g)
  | [], _ => rfl
  | x :: xs, h => by
    obtain ⟨r1, h1, h2, h3⟩ := h x (by simp)
    rw [List.map_cons, lcLoop, h1]
    dsimp only
    rw [h2]
    dsimp only
    rw [h3.eq]
    dsimp only
    rw [lc_mapX c g xs fun y hy => h y (by simp [hy])]
    rfl
theorem lc_fltX {α : Type} (c g : α → D) (p : α → Bool) {rw : Rho} : ∀ xs : List α, (∀ x ∈ xs, ∃ r1, tg (c x) rw = .ok r1 ∧ Rs (tt r1) (fun b => b = p x) nE ∧ (p x = true → Rs (fe r1) (fun e => e = g x) nE)) → lcLoop tg tt fe rw (xs.map c) = .ok ((xs.filter p).map g)
  | [], _ => rfl
  | x :: xs, h => by
    obtain ⟨r1, h1, h2, h3⟩ := h x (by simp)
    rw [List.map_cons, lcLoop, h1]
    dsimp only
    rw [h2.eq]
    cases e : p x with
    | true =>
      dsimp only
      rw [(h3 e).eq]
      dsimp only
      rw [lc_fltX c g p xs fun y hy => h y (by simp [hy]), List.filter_cons_of_pos e]
      rfl
    | false =>
      dsimp only
      rw [lc_fltX c g p xs fun y hy => h y (by simp [hy]), List.filter_cons_of_neg (by rw [e]; decide)]
theorem rs_lc {α : Type} (c g : α → D) (xs : List α) (hi : Rs (its r) (fun ds => ds = xs.map c) E) (hl : xs.length ≤ sizeLine) (hs : ∀ x ∈ xs, ∃ r1, tg (c x) (wipeR r vs) = .ok r1 ∧ tt r1 = .ok true ∧ Rs (fe r1) (fun e => e = g x) nE) (q : Q (.lst (xs.map g))) : Rs (dLc its tg tt fe vs r) Q E :=
  Rs.bind (hi.impE (fun ds e => by
    subst e
    refine rs_guard (by rw [List.length_map]; exact hl) ?_
    rw [lc_mapX c g xs hs]; exact q) fun _ _ _ z => z)
theorem rs_lcF {α : Type} (c g : α → D) (p : α → Bool) (xs : List α) (hi : Rs (its r) (fun ds => ds = xs.map c) E) (hl : xs.length ≤ sizeLine) (hs : ∀ x ∈ xs, ∃ r1, tg (c x) (wipeR r vs) = .ok r1 ∧ Rs (tt r1) (fun b => b = p x) nE ∧ (p x = true → Rs (fe r1) (fun e => e = g x) nE)) (q : Q (.lst ((xs.filter p).map g))) : Rs (dLc its tg tt fe vs r) Q E :=
  Rs.bind (hi.impE (fun ds e => by
    subst e
    refine rs_guard (by rw [List.length_map]; exact hl) ?_
    rw [lc_fltX c g p xs hs]; exact q) fun _ _ _ z => z)
theorem lc_someX {α β : Type} (c : α → D) (g : β → D) (P : Nat → α → β → Prop) {rw : Rho} : ∀ (xs : List α) (k : Nat), (∀ i x, xs[i]? = some x → ∃ r1, tg (c x) rw = .ok r1 ∧ tt r1 = .ok true ∧ Rs (fe r1) (fun e => ∃ y, e = g y ∧ P (k + i) x y) nE) →
    ∃ ys : List β, lcLoop tg tt fe rw (xs.map c) = .ok (ys.map g) ∧ ys.length = xs.length ∧ ∀ i x y, xs[i]? = some x → ys[i]? = some y → P (k + i) x y
  | [], k, _ => ⟨[], rfl, rfl, fun i x y h => by simp at h⟩
  | x :: xs, k, h => by
    obtain ⟨r1, h1, h2, h3⟩ := h 0 x rfl
    obtain ⟨e, h4, y, rfl, h5⟩ := h3.get
    obtain ⟨ys, a1, a2, a3⟩ := lc_someX c g P xs (k + 1) fun i z hz => by
      have := h (i + 1) z (by simpa using hz)
      rw [show k + (i + 1) = k + 1 + i from by omega] at this
      exact this
    refine ⟨y :: ys, ?_, by simp [a2], fun i x' y' hx hy => ?_⟩
    · rw [List.map_cons, lcLoop, h1]
      dsimp only
      rw [h2]
      dsimp only
      rw [h4]
      dsimp only
      rw [a1]
      rfl
    · cases i with
      | zero => simp at hx hy; subst hx hy; exact h5
      | succ i =>
        have := a3 i x' y' (by simpa using hx) (by simpa using hy)
        rw [show k + (i + 1) = k + 1 + i from by omega]
        exact this
/-- a comprehension of which one knows only what each item is like -/
theorem rs_lcS {α β : Type} (c : α → D) (g : β → D) (P : Nat → α → β → Prop) (xs : List α) (hi : Rs (its r) (fun ds => ds = xs.map c) E) (hl : xs.length ≤ sizeLine) (hs : ∀ i x, xs[i]? = some x → ∃ r1, tg (c x) (wipeR r vs) = .ok r1 ∧ tt r1 = .ok true ∧ Rs (fe r1) (fun e => ∃ y, e = g y ∧ P i x y) nE)
    (q : ∀ ys : List β, ys.length = xs.length → (∀ i x y, xs[i]? = some x → ys[i]? = some y → P i x y) → Q (.lst (ys.map g))) : Rs (dLc its tg tt fe vs r) Q E :=
  Rs.bind (hi.impE (fun ds e => by
    subst e
    refine rs_guard (by rw [List.length_map]; exact hl) ?_
    obtain ⟨ys, a1, a2, a3⟩ := lc_someX c g P xs 0 fun i x hx => by
      have := hs i x hx
      rw [Nat.zero_add]; exact this
    rw [a1]
    exact q ys a2 fun i x y hx hy => by have := a3 i x y hx hy; rw [Nat.zero_add] at this; exact this) fun _ _ _ z => z)
theorem rng0_map (n : Nat) : rngL 0 n = (List.range n).map fun (i : Nat) => D.int (i : Int) := by
  unfold rngL
  refine List.map_congr_left fun k _ => ?_
  rw [Int.zero_add]
/-- range(n) as the items of a comprehension -/
theorem rs_rngC {n : Nat} (h : Rs (f r) (fun d => d = .int (n : Int)) E) (hn : n < 4611686018427387904) : Rs (dIts rng1 (dCons f dNil) r) (fun ds => ds = (List.range n).map fun (i : Nat) => D.int (i : Int)) E :=
  rs_its (rs_cons (h.impE (fun d q => by subst q; exact rs_nil (rs_rng1 hn (rng0_map n))) fun _ _ _ z => z))
theorem rs_run {n : Nat} {F : Rho → SR} {as : List D} (h : Ss (F (startR n as)) (fun _ => Q .non) Q nR nR (fun _ => E)) : Rs (runF n false F as) Q E := by
  unfold runF
  cases e : F (startR n as) with
  | nx r => rw [e] at h; exact h
  | rt d => rw [e] at h; exact h
  | bk r => rw [e] at h; exact h.elim
  | ct r => rw [e] at h; exact h.elim
  | er r n ns vs => rw [e] at h; exact h
  | bad => rw [e] at h; exact h.elim
theorem rs_runI {n : Nat} {cls : Str} {F : Rho → SR} {as : List D} (h : Ss (F (startI n cls as)) (fun r => ∃ d, r[0]? = some (some d) ∧ Q d) (fun _ => False) nR nR (fun _ => E)) : Rs (runI n cls F as) Q E := by
  unfold runI
  cases e : F (startI n cls as) with
  | nx r => rw [e] at h; obtain ⟨d, h1, h2⟩ := h; dsimp only; rw [h1]; exact h2
  | rt d => rw [e] at h; exact h.elim
  | bk r => rw [e] at h; exact h.elim
  | ct r => rw [e] at h; exact h.elim
  | er r n ns vs => rw [e] at h; exact h
  | bad => rw [e] at h; exact h.elim
/-- a try -/
theorem ss_try {isM : Str → Option Bool} {i : Nat} {Fb Fs : Rho → SR} {N B C : Rho → Prop} {R : D → Prop} {E : Rho → Str → List Str → List D → Prop} (h : Ss (Fb r) N R B C fun r' n ns vs => isM n = some true ∧ Ss (Fs (r'.set i (some (.obj n ns vs)))) (fun r => N (r.set i none)) R (fun r => B (r.set i none)) (fun r => C (r.set i none)) nE') : Ss (tryF isM i Fb Fs r) N R B C E := by
  unfold tryF
  cases e : Fb r with
  | nx r => rw [e] at h; exact h
  | rt d => rw [e] at h; exact h
  | bk r => rw [e] at h; exact h
  | ct r => rw [e] at h; exact h
  | bad => rw [e] at h; exact h
  | er r' n ns vs =>
    rw [e] at h
    obtain ⟨h1, h2⟩ := h
    dsimp only
    rw [h1]
    dsimp only
    cases e2 : Fs (r'.set i (some (.obj n ns vs))) with
    | nx r => rw [e2] at h2; exact h2
    | rt d => rw [e2] at h2; exact h2
    | bk r => rw [e2] at h2; exact h2
    | ct r => rw [e2] at h2; exact h2
    | bad => rw [e2] at h2; exact h2
    | er r n ns vs => rw [e2] at h2; exact h2.elim
end
end Dx
namespace Dx
open PySem L2
theorem sz5 : (100000 : Nat) ≤ sizeLine := by decide
theorem small_of {i : Int} (h : -1000000000000 < i) (h' : i < 1000000000000) : smallI i := by unfold smallI; omega
def Fit : List Int → List Int → Prop
  | [], [] => True
  | v :: vs, l :: ls => 0 ≤ v ∧ v < l ∧ Fit vs ls
  | _, _ => False
theorem Fit.cons {vs : List Int} {l : Int} {ls : List Int} (h : Fit vs (l :: ls)) : ∃ v us, vs = v :: us ∧ 0 ≤ v ∧ v < l ∧ Fit us ls := by
  cases vs with
  | nil => exact h.elim
  | cons v us => exact ⟨v, us, rfl, h⟩
theorem Fit.nil {vs : List Int} (h : Fit vs []) : vs = [] := by
  cases vs with
  | nil => rfl
  | cons v us => exact h.elim
theorem Fit.len : ∀ {vs ls : List Int}, Fit vs ls → vs.length = ls.length
  | [], [], _ => rfl
  | v :: vs, l :: ls, h => by simp [Fit.len h.2.2]
  | [], _ :: _, h => h.elim
  | _ :: _, [], h => h.elim
theorem Fit.snoc : ∀ {vs ls : List Int} {v l : Int}, Fit vs ls → 0 ≤ v → v < l → Fit (vs ++ [v]) (ls ++ [l])
  | [], [], v, l, _, h1, h2 => ⟨h1, h2, trivial⟩
  | a :: vs, b :: ls, v, l, h, h1, h2 => ⟨h.1, h.2.1, Fit.snoc h.2.2 h1 h2⟩
  | [], _ :: _, _, _, h, _, _ => h.elim
  | _ :: _, [], _, _, h, _, _ => h.elim
theorem Fit.get : ∀ {vs ls : List Int} {k : Nat} {l : Int}, Fit vs ls → ls[k]? = some l → ∃ v, vs[k]? = some v ∧ 0 ≤ v ∧ v < l
  | [], [], _, _, _, h => by simp at h
  | v :: vs, l :: ls, 0, l', h, e => by simp at e; subst e; exact ⟨v, by simp, h.1, h.2.1⟩
  | v :: vs, l :: ls, k + 1, l', h, e => by
    obtain ⟨w, h1, h2⟩ := Fit.get (k := k) h.2.2 (by simpa using e)
    exact ⟨w, by simpa using h1, h2⟩
  | [], _ :: _, _, _, h, _ => h.elim
  | _ :: _, [], _, _, h, _ => h.elim
abbrev iL (ns : List Int) : D := .lst (ns.map D.int)
theorem take_snoc {α : Type} {xs : List α} {i : Nat} {x : α} (h : xs[i]? = some x) : xs.take (i + 1) = xs.take i ++ [x] := by
  rw [List.take_add_one, h]; rfl
end Dx
end S_DxM
section S_DxN
set_option Elab.async false
set_option linter.all false
set_option maxRecDepth 100000
namespace Dx
open PySem L2
def endB (a b : List Nat) : Bool := decide (b.length ≤ a.length) && decide (a.drop (a.length - b.length) = b)
def startB (a b : List Nat) : Bool := decide (b.length ≤ a.length) && decide (a.take b.length = b)
theorem beq_dec (a b : List Nat) : (a == b) = decide (a = b) := by
  by_cases h : a = b
  · subst h; simp
  · simp [h]
theorem end_ST (a b : List Nat) : Txt.endswith (Sg a) (Sg b) = endB a b := by
  unfold Txt.endswith endB
  rw [PySem.StrLaws.subAt_eq, ST_len, ST_len, Nat.zero_add]
  show (decide (b.length ≤ a.length) && ((a.drop (a.length - b.length)).take b.length == b)) = _
  by_cases h : b.length ≤ a.length
  · rw [List.take_of_length_le (by rw [List.length_drop]; omega), beq_dec]
  · rw [decide_eq_false h]; rfl
theorem start_ST (a b : List Nat) : Txt.startswith (Sg a) (Sg b) = startB a b := by
  unfold Txt.startswith startB
  rw [PySem.StrLaws.subAt_eq, ST_len, ST_len, Nat.zero_add]
  show (decide (b.length ≤ a.length) && ((a.drop 0).take b.length == b)) = _
  rw [List.drop_zero, beq_dec]
/-- split at one sign -/
abbrev spc (c : Nat) (a : List Nat) : List (List Nat) := TL.spl [c] 0 [] a
theorem split_ST (a : List Nat) (c : Nat) (hc : c < 256) : Txt.split (Sg a) (Sg [c]) = (spc c a).map Sg := by
  refine TL.map_tl_inj ?_
  rw [TL.split_spl _ _ (by show [c] ≠ []; simp) (TL.kind_ok (by show #[c].all _ = true; simp [hc])), List.map_map]
  show spc c a = _
  rw [show TL.tl ∘ Sg = id from rfl, List.map_id]
theorem pre1 (c x : Nat) (r : List Nat) : TL.pre [c] (x :: r) = decide (x = c) := by
  unfold TL.pre
  show ([x] == [c]) = _
  rw [beq_dec]
  by_cases h : x = c
  · subst h; simp
  · simp [h]
theorem spl_cons (c x : Nat) (acc r : List Nat) : TL.spl [c] 0 acc (x :: r) = if x = c then acc :: TL.spl [c] 0 [] r else TL.spl [c] 0 (acc ++ [x]) r := by
  by_cases h : x = c
  · rw [if_pos h, TL.spl_hit (by rw [pre1]; exact decide_eq_true h)]; rfl
  · rw [if_neg h, TL.spl_miss (by rw [pre1]; exact decide_eq_false h)]
theorem spl_pref (c : Nat) : ∀ (a acc r : List Nat), c ∉ a → TL.spl [c] 0 acc (a ++ r) = TL.spl [c] 0 (acc ++ a) r
  | [], acc, r, _ => by simp
  | x :: a, acc, r, h => by
    have hx : x ≠ c := fun e => h (by simp [e])
    rw [List.cons_append, spl_cons, if_neg hx, spl_pref c a _ r fun z => h (by simp [z])]
    simp
theorem spc_none {c : Nat} {a : List Nat} (ha : c ∉ a) : spc c a = [a] := by
  have := spl_pref c a [] [] ha
  rw [List.append_nil, TL.spl_nil] at this
  exact this
theorem allStr_map {α : Type} (g : α → List Nat) : ∀ xs : List α, allStr (xs.map fun x => .str (Sg (g x))) = some (xs.map fun x => Sg (g x))
  | [] => rfl
  | x :: xs => by rw [List.map_cons, allStr, allStr_map g xs]; rfl
theorem joinL_nil : ∀ xs : List (List Nat), TL.joinL [] xs = xs.flatten
  | [] => rfl
  | [a] => by simp [TL.joinL]
  | a :: b :: r => by rw [TL.joinL, List.nil_append, joinL_nil (b :: r)]; rfl
theorem join_ST (s : List Nat) (xs : List (List Nat)) : Txt.join (Sg s) (xs.map Sg) = Sg (TL.joinL s xs) := by
  rw [TL.join_eq]
  refine TL.ext_tl ?_
  rw [TL.tl_join, List.map_map, show TL.tl ∘ Sg = id from rfl, List.map_id]
section
variable {Q : D → Prop} {E : Str → List Str → List D → Prop} {a b : List Nat}
theorem rs_end (q : Q (.bl (endB a b))) : Rs (endD (.str (Sg a)) (.str (Sg b))) Q E := by
  show Q (.bl (Txt.endswith (Sg a) (Sg b)))
  rw [end_ST]; exact q
theorem rs_start (q : Q (.bl (startB a b))) : Rs (startD (.str (Sg a)) (.str (Sg b))) Q E := by
  show Q (.bl (Txt.startswith (Sg a) (Sg b)))
  rw [start_ST]; exact q
theorem rs_split {c : Nat} (h : c < 256 ∧ a.length + 2 ≤ sizeLine) (q : Q (.lst ((spc c a).map fun l => .str (Sg l)))) : Rs (splitD (.str (Sg a)) (.str (Sg [c]))) Q E := by
  refine rs_guard ⟨rfl, by rw [ST_len]; exact h.2⟩ ?_
  show Q (.lst (strsD (Txt.split (Sg a) (Sg [c]))))
  rw [split_ST a c h.1]
  unfold strsD
  rw [List.map_map]; exact q
theorem rs_joinS {α : Type} {g : α → List Nat} {xs : List α} (h : (xs.map fun x => (g x).length).sum ≤ 16777216) (q : Q (.str (Sg (xs.map g).flatten))) : Rs (joinD (.str (Sg [])) (.lst (xs.map fun x => .str (Sg (g x))))) Q E := by
  show Rs (joinZ (Sg []) (allStr (xs.map fun x => .str (Sg (g x))))) Q E
  rw [allStr_map]
  refine rs_guard ?_ ?_
  · rw [List.map_map]
    simp only [ST_len, Function.comp_def, List.length_nil, Nat.mul_zero, Nat.add_zero]
    exact h
  · have := join_ST [] (xs.map g)
    rw [List.map_map, joinL_nil] at this
    show Q (.str (Txt.join (Sg []) (xs.map (Sg ∘ g))))
    rw [this]; exact q
theorem rs_joinC {ns : List Nat} (h : ns.length ≤ 16777216) (q : Q (.str (Sg ns))) : Rs (joinD (.str (Sg [])) (.lst (ns.map fun n => .str (Sg [n])))) Q E := by
  refine rs_joinS (g := fun n => [n]) ?_ ?_
  · have : ∀ l : List Nat, (l.map fun n => ([n] : List Nat).length).sum = l.length := fun l => by
      induction l with
      | nil => rfl
      | cons a l ih => rw [List.map_cons, List.sum_cons, ih, List.length_cons]; simp; omega
    rw [this]; exact h
  · have : ∀ l : List Nat, (l.map fun n => ([n] : List Nat)).flatten = l := fun l => by
      induction l with
      | nil => rfl
      | cons a l ih => rw [List.map_cons, List.flatten_cons, ih]; rfl
    rw [this]; exact q
theorem ix_str {v : Int} (h : 0 ≤ v ∧ v < (a.length : Int)) (ha : a.length ≤ 100000) (q : ∀ n, a[v.toNat]? = some n → n ∈ a → Q (.str (Sg [n]))) : Rs (ixD (.str (Sg a)) (.int v)) Q E := by
  obtain ⟨k, rfl⟩ : ∃ k : Nat, v = (k : Int) := ⟨v.toNat, by omega⟩
  have hk : k < a.length := by omega
  refine rs_ixS (n := a[k]) ⟨Nat.le_trans ha sz5, atI_nat (List.getElem?_eq_getElem hk)⟩ (q _ ?_ (List.getElem_mem hk))
  rw [Int.toNat_natCast]; exact List.getElem?_eq_getElem hk
end
section
variable {Q : D → Prop} {E : Str → List Str → List D → Prop}
theorem rs_isi_non_bool  (q : Q (.bl false)) : Rs (isiD "bool" .non) Q E := rs_isi rfl (by decide +kernel) q
theorem rs_isi_non_int  (q : Q (.bl false)) : Rs (isiD "int" .non) Q E := rs_isi rfl (by decide +kernel) q
theorem rs_isi_non_str  (q : Q (.bl false)) : Rs (isiD "str" .non) Q E := rs_isi rfl (by decide +kernel) q
theorem rs_isi_non_tuple  (q : Q (.bl false)) : Rs (isiD "tuple" .non) Q E := rs_isi rfl (by decide +kernel) q
theorem rs_isi_non_list  (q : Q (.bl false)) : Rs (isiD "list" .non) Q E := rs_isi rfl (by decide +kernel) q
theorem rs_isi_bl_bool {x : Bool} (q : Q (.bl true)) : Rs (isiD "bool" (.bl x)) Q E := rs_isi rfl (by decide +kernel) q
theorem rs_isi_bl_int {x : Bool} (q : Q (.bl true)) : Rs (isiD "int" (.bl x)) Q E := rs_isi rfl (by decide +kernel) q
theorem rs_isi_bl_str {x : Bool} (q : Q (.bl false)) : Rs (isiD "str" (.bl x)) Q E := rs_isi rfl (by decide +kernel) q
theorem rs_isi_bl_tuple {x : Bool} (q : Q (.bl false)) : Rs (isiD "tuple" (.bl x)) Q E := rs_isi rfl (by decide +kernel) q
theorem rs_isi_bl_list {x : Bool} (q : Q (.bl false)) : Rs (isiD "list" (.bl x)) Q E := rs_isi rfl (by decide +kernel) q
theorem rs_isi_int_bool {x : Int} (q : Q (.bl false)) : Rs (isiD "bool" (.int x)) Q E := rs_isi rfl (by decide +kernel) q
theorem rs_isi_int_int {x : Int} (q : Q (.bl true)) : Rs (isiD "int" (.int x)) Q E := rs_isi rfl (by decide +kernel) q
theorem rs_isi_int_str {x : Int} (q : Q (.bl false)) : Rs (isiD "str" (.int x)) Q E := rs_isi rfl (by decide +kernel) q
theorem rs_isi_int_tuple {x : Int} (q : Q (.bl false)) : Rs (isiD "tuple" (.int x)) Q E := rs_isi rfl (by decide +kernel) q
theorem rs_isi_int_list {x : Int} (q : Q (.bl false)) : Rs (isiD "list" (.int x)) Q E := rs_isi rfl (by decide +kernel) q
theorem rs_isi_str_bool {x : Str} (q : Q (.bl false)) : Rs (isiD "bool" (.str x)) Q E := rs_isi rfl (by decide +kernel) q
theorem rs_isi_str_int {x : Str} (q : Q (.bl false)) : Rs (isiD "int" (.str x)) Q E := rs_isi rfl (by decide +kernel) q
theorem rs_isi_str_str {x : Str} (q : Q (.bl true)) : Rs (isiD "str" (.str x)) Q E := rs_isi rfl (by decide +kernel) q
theorem rs_isi_str_tuple {x : Str} (q : Q (.bl false)) : Rs (isiD "tuple" (.str x)) Q E := rs_isi rfl (by decide +kernel) q
theorem rs_isi_str_list {x : Str} (q : Q (.bl false)) : Rs (isiD "list" (.str x)) Q E := rs_isi rfl (by decide +kernel) q
theorem rs_isi_lst_bool {x : List D} (q : Q (.bl false)) : Rs (isiD "bool" (.lst x)) Q E := rs_isi rfl (by decide +kernel) q
theorem rs_isi_lst_int {x : List D} (q : Q (.bl false)) : Rs (isiD "int" (.lst x)) Q E := rs_isi rfl (by decide +kernel) q
theorem rs_isi_lst_str {x : List D} (q : Q (.bl false)) : Rs (isiD "str" (.lst x)) Q E := rs_isi rfl (by decide +kernel) q
theorem rs_isi_lst_tuple {x : List D} (q : Q (.bl false)) : Rs (isiD "tuple" (.lst x)) Q E := rs_isi rfl (by decide +kernel) q
theorem rs_isi_lst_list {x : List D} (q : Q (.bl true)) : Rs (isiD "list" (.lst x)) Q E := rs_isi rfl (by decide +kernel) q
theorem rs_isi_tup_bool {x : List D} (q : Q (.bl false)) : Rs (isiD "bool" (.tup x)) Q E := rs_isi rfl (by decide +kernel) q
theorem rs_isi_tup_int {x : List D} (q : Q (.bl false)) : Rs (isiD "int" (.tup x)) Q E := rs_isi rfl (by decide +kernel) q
theorem rs_isi_tup_str {x : List D} (q : Q (.bl false)) : Rs (isiD "str" (.tup x)) Q E := rs_isi rfl (by decide +kernel) q
theorem rs_isi_tup_tuple {x : List D} (q : Q (.bl true)) : Rs (isiD "tuple" (.tup x)) Q E := rs_isi rfl (by decide +kernel) q
theorem rs_isi_tup_list {x : List D} (q : Q (.bl false)) : Rs (isiD "list" (.tup x)) Q E := rs_isi rfl (by decide +kernel) q
end
theorem cut_take {α : Type} (a : List α) (k : Nat) : cutL a none (some (k : Int)) = a.take k := by
  unfold cutL
  rw [HT.sIx_none, HT.sIx_nat, List.drop_zero, Nat.sub_zero]
  by_cases h : k ≤ a.length
  · rw [Nat.min_eq_left h]
  · rw [Nat.min_eq_right (by omega), List.take_length, List.take_of_length_le (by omega)]
theorem cut_drop {α : Type} (a : List α) (k : Nat) : cutL a (some (k : Int)) none = a.drop k := by
  unfold cutL
  rw [HT.sIx_none, HT.sIx_nat]
  by_cases h : k ≤ a.length
  · rw [Nat.min_eq_left h, List.take_of_length_le (by rw [List.length_drop]; omega)]
  · rw [Nat.min_eq_right (by omega), Nat.sub_self, List.take_zero, List.drop_of_length_le (by omega)]
/-- a[:-k] -/
theorem cut_back {α : Type} (a : List α) (k : Nat) (hk : 0 < k) : cutL a none (some (-(k : Int))) = a.take (a.length - k) := by
  unfold cutL
  have e : HT.sIx a.length a.length (some (-(k : Int))) = a.length - k := by
    show (if -(k : Int) < 0 then (-(k : Int) + (a.length : Int)).toNat else _) = _
    rw [if_pos (by omega)]; omega
  rw [e, HT.sIx_none, List.drop_zero, Nat.sub_zero]
/-- a[-k:] -/
theorem cut_last {α : Type} (a : List α) (k : Nat) (hk : 0 < k) : cutL a (some (-(k : Int))) none = a.drop (a.length - k) := by
  unfold cutL
  have e : HT.sIx a.length 0 (some (-(k : Int))) = a.length - k := by
    show (if -(k : Int) < 0 then (-(k : Int) + (a.length : Int)).toNat else _) = _
    rw [if_pos (by omega)]; omega
  rw [e, HT.sIx_none, List.take_of_length_le (by rw [List.length_drop]; omega)]
end Dx
end S_DxN
section S_DxQ
set_option Elab.async false
set_option linter.all false
set_option maxRecDepth 100000
namespace Dx
open PySem L2
section
variable {Q : D → Prop} {E : Str → List Str → List D → Prop} {r : Rho} {f f1 : Rho → Res D} {fs : Rho → Res (List D)} {n fl gl : Str} {ns : List Str} {vs ds es : List D} {F : List D → Res D} {x d : D}
theorem rs_star {Q : List D → Prop} (h : Rs (f r) (fun d => Rs (items d) (fun xs => Rs (fs r) (fun ys => Q (xs ++ ys)) E) E) E) : Rs (dStar f fs r) Q E := Rs.bind (h.impE (fun a q => Rs.bind (q.impE (fun _ q => Rs.bind q) fun _ _ _ z => z)) fun _ _ _ z => z)
theorem rs_itemsL {Q : List D → Prop} (q : Q ds) : Rs (items (.lst ds)) Q E := q
theorem rs_itemsT {Q : List D → Prop} (q : Q ds) : Rs (items (.tup ds)) Q E := q
theorem rs_zipL {Q : List D → Prop} (q : Q (pairs ds es)) : Rs (zipL [.lst ds, .lst es]) Q E := q
theorem rs_zipS {a b : List Nat} {Q : List D → Prop} (q : Q (pairs (a.map fun n => .str (Sg [n])) (b.map fun n => .str (Sg [n])))) : Rs (zipS [.str (Sg a), .str (Sg b)]) Q E := q
theorem isCls_self : isCls n (.obj n ns vs) = true := by unfold isCls; exact decide_eq_true rfl
theorem rs_lenO {i : Int} (hF : F [.obj n ns vs] = .ok (.int i)) (hi : 0 ≤ i ∧ i < 2 ^ 63) (q : Q (.int i)) : Rs (g1 (lenO n F) [.obj n ns vs]) Q E := by
  show Rs (lenO n F (.obj n ns vs)) Q E
  unfold lenO
  rw [if_pos isCls_self, hF]
  exact rs_guard hi q
theorem rs_listO (h1 : lookF ns vs fl = some (.lst ds)) (h2 : lookF ns vs gl = some (.lst es)) (h3 : ds.length ≤ sizeLine) (h4 : es.length ≤ sizeLine) (q : Q (.lst ds)) : Rs (g1 (listO n fl gl) [.obj n ns vs]) Q E := by
  show Rs (listO n fl gl (.obj n ns vs)) Q E
  unfold listO
  dsimp only
  rw [if_pos rfl, h1, h2]
  exact rs_guard ⟨h3, h4⟩ q
theorem rs_itO {Q : List D → Prop} (h1 : lookF ns vs fl = some (.lst ds)) (q : Q ds) : Rs (itO n fl (.obj n ns vs)) Q E := by
  show Rs (if n = n then (match lookF ns vs fl with
    | some (.lst ds) => .ok ds
    | _ => .bad) else .bad) Q E
  rw [if_pos rfl, h1]
  exact q
end
end Dx
end S_DxQ
section S_DxR
set_option Elab.async false
set_option linter.all false
set_option maxRecDepth 100000
set_option maxHeartbeats 2000000
namespace Dx
open PySem L2 ItX
open PyProof.Rows hiding St
section
variable {X : Cx} {c : Cf} {L G G' : List Ow} {f f1 f2 : Rho → Res D} {e o a b : Expr} {es : List Expr} {pos apos p : Pos} {fs : Rho → Res (List D)} {n : Str} {C : Addr} {F : List D → Res D} {rm : Bool} {k : Nat} {fa : Addr} {fd : FuncData} {ps : List Str}
def keyD : D → Option Key
  | .int i => some (.inl i)
  | .str z => some (.inr z)
  | _ => none
def keyOf : Key → D
  | .inl i => .int i
  | .inr z => .str z
def getK {κ : Type} [DecidableEq κ] : List κ → List D → κ → Option D
  | k :: ks, v :: vs, x => if k = x then some v else getK ks vs x
  | _, _, _ => none
def putV {κ : Type} [DecidableEq κ] (ks : List κ) (vs : List D) (x : κ) (d : D) : List κ × List D := if (ks.any fun k => decide (k = x)) = true then (ks, List.zipWith (fun k v => if k = x then d else v) ks vs) else (ks ++ [x], vs ++ [d])
/-- {} -/
def dD0 : Rho → Res D := fun _ => .ok (.dk [] [])
/-- k in d -/
def inK (neg : Bool) : D → D → Res D
  | k, .dk ks vs => match keyD k with
    | some x => .ok (.bl (if neg then !(getK ks vs x).isSome else (getK ks vs x).isSome))
    | none => .bad
  | _, _ => .bad
/-- list(d), len(d) -/
def listK : D → Res D
  | .dk ks _ => .ok (.lst (ks.map keyOf))
  | _ => .bad
def lenK : D → Res D
  | .dk ks _ => .ok (.int ks.length)
  | .dt ks _ => .ok (.int ks.length)
  | _ => .bad
/-- d[k] = v, d an own dict -/
def ownK (i : Nat) (r : Rho) : Res (List Key × List D) := match r[i]? with
  | some (some (.dk ks vs)) => .ok (ks, vs)
  | _ => .bad
def asK (d : D) : Res Key := match keyD d with
  | some k => .ok k
  | none => .bad
noncomputable def putF (i : Nat) (fk f : Rho → Res D) : Rho → SR := fun r => liftS r (f r) fun d => liftS r (ownK i r) fun o => liftS r (fk r) fun k => liftS r (asK k) fun x => guardS (o.1.length < sizeLine) (.nx (r.set i (some (.dk (putV o.1 o.2 x d).1 (putV o.1 o.2 x d).2))))
end
end Dx
end S_DxR
section S_DxI
set_option Elab.async false
set_option linter.all false
set_option maxRecDepth 100000
set_option maxHeartbeats 2000000
namespace Dx
open PySem L2 ItX PyProof.Rows
section
variable {X : Cx} {c : Cf} {L G G' : List Ow} {a b e : Expr} {pos : Pos} {f f1 f2 : Rho → Res D} {k : Nat}
def keysD : List D → Option (List Key)
  | [] => some []
  | d :: ds => match keyD d, keysD ds with
    | some k, some ks => some (k :: ks)
    | _, _ => none
def keyT : D → Option (List Key)
  | .tup ds => keysD ds
  | _ => none
def tupOf (ks : List Key) : D := .tup (ks.map keyOf)
theorem key_rp {K : PySem.W.Frag} {cm : CM} {S : Hp} : ∀ ks : List Key, RpA K cm S (ks.map kV) (ks.map keyOf)
  | [] => .nil
  | k :: ks => .cons (by cases k with | inl i => exact .int i | inr z => exact .str z) (key_rp ks)
/-- a tuple of the heap becomes one that stays -/
theorem Fwd.tup {S H : Hp} (e : Ex S H) {q : Addr} {xs : List V} (h : H q = some (.tup xs)) : ∃ S', Fwd S H S' H ∧ S' q = some (.tup xs) := by
  cases hs : S q with
  | some o =>
    have := e _ _ hs
    rw [h] at this
    cases this
    exact ⟨S, Fwd.refl e, hs⟩
  | none =>
    refine ⟨upd S q (.tup xs), ⟨Ex.new hs, Ex.refl, fun a u ha => ?_, fun a u ha m => ?_⟩, upd_same⟩
    · by_cases hh : a = q
      · subst hh; rw [upd_same] at ha; rw [h]; exact ha
      · rw [upd_ne hh] at ha; exact e a u ha
    · by_cases hh : a = q
      · subst hh; exact .inr ⟨xs, h⟩
      · rw [upd_ne hh, m] at ha; cases ha
theorem Fwd.tups {H : Hp} : ∀ {S : Hp} {kvs : List (List Key × V)} {bs : List Addr} {K : PySem.W.Frag} {cm : CM}, Ex S H → IsKeys H kvs bs → ∃ S', Fwd S H S' H ∧ RpA K cm S' (bs.map V.ref) (kvs.map fun p => tupOf p.1)
  | S, [], [], _, _, e, _ => ⟨S, Fwd.refl e, .nil⟩
  | S, [], _ :: _, _, _, e, h => nomatch h
  | S, _ :: _, [], _, _, e, h => nomatch h
  | S, p :: kvs, b :: bs, K, cm, e, h => by
    cases h with
    | cons h1 h2 =>
      obtain ⟨S1, f1, g1⟩ := Fwd.tup e h1
      obtain ⟨S2, f2, g2⟩ := Fwd.tups (K := K) (cm := cm) f1.sub h2
      exact ⟨S2, f1.trans f2, .cons (.tup (f2.s _ _ g1) (key_rp _)) g2⟩
def itemsK : D → Res (List D)
  | .dt ks _ => .ok (ks.map tupOf)
  | .dk ks _ => .ok (ks.map keyOf)
  | _ => .bad
variable {tg : Expr}
end
end Dx
end S_DxI
section S_DxJ
set_option Elab.async false
set_option linter.all false
set_option maxRecDepth 100000
set_option maxHeartbeats 2000000
namespace Dx
open PySem L2 ItX PyProof.Rows
/-- a def of the text, whatever its defaults are -/
structure FunE (K : PySem.W.Frag) (x qual : Str) (st : Stmt) (f : Addr) (fd : FuncData) : Prop where
  ex : ∃ (oc : Value) (od : Option Addr) (dV kV doc pm : Value) (an : Option Addr) (cdv ct : Value) (osl : Array (Option Value)),
    fd = PySem.W.fnOf x qual (defArgs st) (defBody st) (defScope st) dV kV doc pm an cdv ct ∧ K.lookup f = some ⟨oc, od, .func fd, osl⟩ ∧ PySem.W.codeIn K cdv qual = true
  kp : PySem.W.keepIn K (.ref f) = true
section
variable {P : Program} {w : World} {K : PySem.W.Frag} {mg : Str → Option Value} {base : Heap} {cm : CM}
theorem FunE.okX {x qual : Str} {st : Stmt} {f : Addr} {fd : FuncData} {N ps : List Str} {k : Nat} {sp : Sp} (F : FunE K x qual st f fd) (S : FnScope N ps (defScope st)) (len : ∀ vs H Q E, sp vs H Q E → vs.length = ps.length)
    (hbody : ∀ (cdv : Value) (A : Around) (outer : List Env) (s : Shared) (H : Hp) (vs : List V) (Q : VK) (E : XK), Room k (A.deeper (envOfC qual (defScope st) s.heap.objs.size f cdv)) → sp vs H Q E →
      ∃ t, PSs (cxOf (L2.CX P w) P w K mg base N qual (defScope st) f cdv A outer s H E) (defBody st) t ∧ t { nx := fun _ H' => Q .non H', rt := Q } (start N vs) H) : FnOk P w K mg base (L2.CX P w) (k + 1) f fd ps sp := by
  obtain ⟨oc, od, dV, kV, doc, pm, an, cdv, ct, osl, rfl, lk, hcd⟩ := F.ex
  exact fn_of lk hcd S len fun A outer s H vs Q E hr hsp => hbody cdv A outer s H vs Q E hr hsp
end
end Dx
end S_DxJ
section S_DxH
set_option Elab.async false
set_option linter.all false
set_option maxRecDepth 100000
set_option maxHeartbeats 4000000
namespace Dx
open PySem L2 PyProof.Rows Srt SrtO
abbrev T3 := Int × Int × Int
section
variable {prog : Program} {w : World} {A : Around} {E : Value → Shared → Prop} {s : Shared}
/-- v is a tuple of three ints in the heap -/
def IsTri (h : Heap) (v : Value) (k : T3) : Prop := ∃ a o t u v' n, v = .ref a ∧ h.get? a = some o ∧ o.cls = .type "tuple" ∧ o.data = .seq #[.int k.1 t, .int k.2.1 u, .int k.2.2 v'] n
theorem IsTri.keeps {h h' : Heap} {v : Value} {k : T3} (p : IsTri h v k) (kk : ∀ b o, h.get? b = some o → o.cls = .type "tuple" → h'.get? b = some o) : IsTri h' v k := by
  obtain ⟨a, o, t, u, z, n, e, ho, hc, hd⟩ := p
  exact ⟨a, o, t, u, z, n, e, kk _ _ ho hc, hc, hd⟩
end
end Dx
end S_DxH
section S_DxL
set_option Elab.async false
set_option linter.all false
set_option maxRecDepth 100000
set_option maxHeartbeats 4000000
namespace Dx
open PySem L2
end Dx
end S_DxL
section S_DxK
set_option Elab.async false
set_option linter.all false
set_option maxRecDepth 100000
set_option maxHeartbeats 2000000
namespace Dx
open PySem L2 PyProof.Rows ClX
end Dx
namespace Dx
open PySem L2
end Dx
end S_DxK
section S_DxAA
set_option Elab.async false
set_option linter.all false
set_option maxRecDepth 100000
set_option maxHeartbeats 2000000
namespace Dx
open PySem L2
section
variable {X : Cx} {c : Cf} {L G G' : List Ow} {f f1 f2 : Rho → Res D} {a b e : Expr} {pos : Pos} {tg : Expr}
def insI (p : Int) : List Int → List Int
  | [] => [p]
  | x :: xs => if x < p then x :: insI p xs else p :: x :: xs
def sortI : List Int → List Int
  | [] => []
  | x :: xs => insI x (sortI xs)
def sortID : D → Res D
  | .lst ds => match allInt ds with
    | some is => .ok (.lst ((sortI is).map D.int))
    | none => .bad
  | _ => .bad
end
section
variable {Q : D → Prop} {E : Str → List Str → List D → Prop} {i j s : Int}
theorem allInt_map : ∀ ns : List Int, allInt (ns.map D.int) = some ns
  | [] => rfl
  | n :: ns => by rw [List.map_cons, allInt, allInt_map ns]
theorem rs_sortI {ns : List Int} (q : Q (.lst ((sortI ns).map D.int))) : Rs (g1 sortID [.lst (ns.map D.int)]) Q E := by
  show Rs (match allInt (ns.map D.int) with | some is => Res.ok (.lst ((sortI is).map D.int)) | none => .bad) Q E
  rw [allInt_map]; exact q
theorem rs_g2 {g : Int → Int → Int} (q : Q (.int (g i j))) : Rs (g2 (intsD g) [.int i, .int j]) Q E := q
theorem rs_sum {ns : List Int} (q : Q (.int ns.sum)) : Rs (g1 sumD [.lst (ns.map D.int)]) Q E := by
  show Rs (match allInt (ns.map D.int) with | some is => Res.ok (.int is.sum) | none => .bad) Q E
  rw [allInt_map]; exact q
end
end Dx
end S_DxAA
section S_DxAB
set_option Elab.async false
set_option linter.all false
set_option maxRecDepth 100000
set_option maxHeartbeats 4000000
namespace Dx
open PySem L2 PyProof.Rows Srt SrtO
section
variable {prog : Program} {w : World} {A : Around} {E : Value → Shared → Prop} {s : Shared}
def IsRow (h : Heap) (v : Value) (k : List Key) : Prop := ∃ a o us n, v = .ref a ∧ h.get? a = some o ∧ o.cls = .type "tuple" ∧ o.data = .seq us.toArray n ∧ Vals (k.map kV) us
theorem IsRow.keeps {h h' : Heap} {v : Value} {k : List Key} (p : IsRow h v k) (kk : ∀ b o, h.get? b = some o → o.cls = .type "tuple" → h'.get? b = some o) : IsRow h' v k := by
  obtain ⟨a, o, us, n, e, ho, hc, hd, hv⟩ := p
  exact ⟨a, o, us, n, e, kk _ _ ho hc, hc, hd, hv⟩
end
end Dx
end S_DxAB
section S_DxAC
set_option Elab.async false
set_option linter.all false
set_option maxRecDepth 100000
set_option maxHeartbeats 4000000
namespace Dx
open PySem L2
section
variable {X : Cx} {c : Cf} {L G G' G'' : List Ow} {f f1 f2 : Rho → Res D} {a b e e2 e3 : Expr} {pos : Pos} {tg : Expr} {k : Nat}
def getE (d k e : D) : Res D := match d with
  | .dk ks vs => match keyD k with
    | some x => .ok ((getK ks vs x).getD e)
    | none => .bad
  | .dt ks vs => match keyT k with
    | some x => .ok ((getK ks vs x).getD e)
    | none => .bad
  | _ => .bad
abbrev FP := (Rho → Res D) × (Rho → Res D)
def dPairs : List FP → Rho → Res (List (D × D))
  | [], _ => .ok []
  | p :: ps, r => (p.1 r).bind fun k => (p.2 r).bind fun d => (dPairs ps r).bind fun kvs => .ok ((k, d) :: kvs)
def RpPs (c : Cf) (S : Hp) : List (V × V) → List (D × D) → Prop
  | [], [] => True
  | v :: vs, d :: ds => Rp c.K c.cm S v.1 d.1 ∧ Rp c.K c.cm S v.2 d.2 ∧ RpPs c S vs ds
  | _, _ => False
def mergeD : List Key → List D → List (D × D) → Res D
  | ks, vs, [] => .ok (.dk ks vs)
  | ks, vs, (k, d) :: kvs => match keyD k with
    | some x => mergeD (putV ks vs x d).1 (putV ks vs x d).2 kvs
    | none => .bad
def dDisp (ps : List FP) : Rho → Res D := fun r => (dPairs ps r).bind fun kvs => mergeD [] [] kvs
theorem RpPs.len {S : Hp} : ∀ {vs : List (V × V)} {ds : List (D × D)}, RpPs c S vs ds → vs.length = ds.length
  | [], [], _ => rfl
  | v :: vs, d :: ds, h => by simp [RpPs.len h.2.2]
  | [], _ :: _, h => h.elim
  | _ :: _, [], h => h.elim
def allBl : List D → Option (List Bool)
  | [] => some []
  | .bl b :: ds => match allBl ds with
    | some bs => some (b :: bs)
    | none => none
  | _ => none
def allD : D → Res D
  | .lst ds => match allBl ds with
    | some bs => .ok (.bl (bs.all id))
    | none => .bad
  | _ => .bad
def inKt (neg : Bool) (d e : D) : Res D := match e with
  | .kt ds => match inFlat d ds with
    | some b => .ok (.bl (if neg then !b else b))
    | none => .bad
  | _ => .bad
def parF3 (i j l : Nat) (f1 f2 f3 : Rho → Res D) : Rho → SR := fun r => liftS r (dCons f1 (dCons f2 (dCons f3 dNil)) r) fun ds => match ds with
  | [d, e, g] => .nx (((r.set i (some d)).set j (some e)).set l (some g))
  | _ => .bad
end
section
variable {Q : D → Prop} {E : Str → List Str → List D → Prop} {r : Rho} {f f1 f2 f3 : Rho → Res D} {d k e : D}
theorem allBl_map : ∀ bs : List Bool, allBl (bs.map D.bl) = some bs
  | [] => rfl
  | b :: bs => by rw [List.map_cons, allBl, allBl_map bs]
theorem rs_all {bs : List Bool} (q : Q (.bl (bs.all id))) : Rs (g1 allD [.lst (bs.map D.bl)]) Q E := by
  show Rs (match allBl (bs.map D.bl) with | some bs => Res.ok (.bl (bs.all id)) | none => .bad) Q E
  rw [allBl_map]; exact q
end
section
variable {N B C : Rho → Prop} {R : D → Prop} {E : Rho → Str → List Str → List D → Prop} {r : Rho} {f f1 f2 f3 : Rho → Res D} {i j l : Nat}
theorem ss_par3 (h : Rs (f1 r) (fun d => Rs (f2 r) (fun e => Rs (f3 r) (fun g => N (((r.set i (some d)).set j (some e)).set l (some g))) (E r)) (E r)) (E r)) : Ss (parF3 i j l f1 f2 f3 r) N R B C E :=
  ss_lift (rs_cons (h.impE (fun d q => rs_cons (q.impE (fun e q => rs_cons (q.impE (fun g q => rs_nil q) fun _ _ _ z => z)) fun _ _ _ z => z)) fun _ _ _ z => z))
end
end Dx
end S_DxAC
section S_DxAD
set_option Elab.async false
set_option linter.all false
set_option maxRecDepth 100000
set_option maxHeartbeats 2000000
namespace Dx
open PySem L2
section
variable {X : Cx} {c : Cf} {G : List Ow} {pos : Pos}
theorem de_strL {x y : Str} {j : Nat} (h : x = y) : PE X (.Constant (.str x) j pos) (tV c G (dC (.str y))) := by subst h; exact de_str
theorem rp_lit {K : PySem.W.Frag} {cm : CM} {S : Hp} {x y : Str} (h : x = y) : Rp K cm S (.str x) (.str y) := by subst h; exact .str _
end
theorem log_small {i : Int} (h : 0 ≤ i) (h1 : i < 1000000000000) : i.natAbs.log2 < 1920 := by
  by_cases h0 : i.natAbs = 0
  · rw [h0]; decide
  · have : i.natAbs < 2 ^ 40 := by omega
    have := (Nat.log2_lt h0).mpr this
    omega
theorem num_ST {i : Int} (h : 0 ≤ i) : (toString i : Str) = Sg (TL.numL i.toNat) := by
  have e : i = ((i.toNat : Nat) : Int) := by omega
  refine TL.ext_tl ?_
  have := TL.tl_num i.toNat
  rw [← e] at this
  exact this
theorem lt_one {a b : Nat} : ([a] < [b]) ↔ a < b := by
  constructor
  · intro h
    cases h with
    | rel h => exact h
    | cons h => cases h
  · intro h; exact List.Lex.rel h
section
variable {Q : D → Prop} {E : Str → List Str → List D → Prop} {i j : Int} {a b l : List Nat} {r : Rho} {f : Rho → Res D} {g : Str → Rho → Res D} {acc : List Nat} {d : D}
theorem rs_strI (h : 0 ≤ i ∧ i < 1000000000000) (q : Q (.str (Sg (TL.numL i.toNat)))) : Rs (g1 strD [.int i]) Q E :=
  rs_guard (log_small h.1 h.2) (by show Q (.str (toString i)); rw [num_ST h.1]; exact q)
theorem rs_fmtI (h : 0 ≤ i ∧ i < 1000000000000) (q : Q (.str (Sg (TL.numL i.toNat)))) : Rs (fmtD (.int i)) Q E :=
  rs_guard (log_small h.1 h.2) (by show Q (.str (toString i)); rw [num_ST h.1]; exact q)
theorem rs_fmtS (h : a.length ≤ sizeLine) (q : Q (.str (Sg a))) : Rs (fmtD (.str (Sg a))) Q E := rs_guard (by rw [ST_len]; exact h) q
theorem rs_jnil (q : Q (.str (Sg acc))) : Rs (dJnil (Sg acc) r) Q E := q
theorem rs_jcons (h : Rs (f r) (fun d => Rs (asS d) (fun y => ∃ l, y = Sg l ∧ acc.length + l.length ≤ 100000 ∧ Rs (g (Sg (acc ++ l)) r) Q E) E) E) : Rs (dJcons f g (Sg acc) r) Q E :=
  Rs.bind (h.impE (fun d q => Rs.bind (q.impE (fun y q => by
    obtain ⟨l, rfl, h1, h2⟩ := q
    rw [ST_app]
    exact rs_guard (by rw [ST_len, List.length_append]; exact Nat.le_trans h1 sz5) h2) fun _ _ _ z => z)) fun _ _ _ z => z)
theorem rs_asSJ {l : List Nat} (h : acc.length + l.length ≤ 100000) (k : Rs (g (Sg (acc ++ l)) r) Q E) : Rs (asS (.str (Sg l))) (fun y => ∃ l, y = Sg l ∧ acc.length + l.length ≤ 100000 ∧ Rs (g (Sg (acc ++ l)) r) Q E) E := ⟨l, rfl, h, k⟩
theorem rs_dJoin (h : Rs (g (Sg []) r) Q E) : Rs (dJoin g r) Q E := h
theorem rs_ord {n : Nat} (q : Q (.int n)) : Rs (g1 ordX [.str (Sg [n])]) Q E := rs_guard (by rw [ST_len]; rfl) q
theorem rs_leS {m n : Nat} (q : Q (.bl (decide (m ≤ n)))) : Rs (leD (.str (Sg [m])) (.str (Sg [n]))) Q E := by
  show Q (.bl (!decide ([n] < [m])))
  rw [show (!decide ([n] < [m])) = decide (m ≤ n) from by
    rw [Bool.eq_iff_iff]
    simp only [Bool.not_eq_true', decide_eq_false_iff_not, decide_eq_true_eq, lt_one]
    omega]
  exact q
theorem inFlat_ints (i : Int) (ns : List Int) : inFlat (.int i) (ns.map D.int) = some (decide (i ∈ ns)) := by
  have e : flatDs (ns.map D.int) = some (ns.map V.int) := by
    induction ns with
    | nil => rfl
    | cons n ns ih => rw [List.map_cons, flatDs, ih]; rfl
  unfold inFlat
  rw [e]
  show some (inV (V.int i) (ns.map V.int)) = _
  congr 1
  induction ns with
  | nil => rfl
  | cons n ns ih =>
    have e : flatDs (ns.map D.int) = some (ns.map V.int) := by
      clear ih e
      induction ns with
      | nil => rfl
      | cons n ns ih => rw [List.map_cons, flatDs, ih]; rfl
    have ih := ih e
    unfold inV at ih ⊢
    rw [List.map_cons, List.any_cons, ih]
    show (decide (n = i) || decide (i ∈ ns)) = _
    by_cases h : n = i
    · subst h; simp
    · have h' : ¬ i = n := fun z => h z.symm
      simp [h, h']
theorem rs_inKI {neg : Bool} {ns : List Int} (q : Q (.bl (if neg then !decide (i ∈ ns) else decide (i ∈ ns)))) : Rs (inKt neg (.int i) (.kt (ns.map D.int))) Q E := by
  show Rs (match inFlat (.int i) (ns.map D.int) with | some b => Res.ok (D.bl (if neg then !b else b)) | none => .bad) Q E
  rw [inFlat_ints]; exact q
theorem rs_inI {ns : List Int} (q : Q (.bl (decide (i ∈ ns)))) : Rs (inD (.int i) (.lst (ns.map D.int))) Q E := by
  show Rs ((inLst (.int i) (ns.map D.int)).bind _) Q E
  unfold inLst
  rw [inFlat_ints]; exact q
theorem rs_ninI {ns : List Int} (q : Q (.bl (!decide (i ∈ ns)))) : Rs (ninD (.int i) (.lst (ns.map D.int))) Q E := by
  show Rs ((inLst (.int i) (ns.map D.int)).bind _) Q E
  unfold inLst
  rw [inFlat_ints]; exact q
end
abbrev TD := List (List Nat × D)
def kS (a : List Nat) : Key := .inr (Sg a)
theorem kS_inj {a b : List Nat} : kS a = kS b ↔ a = b := ⟨fun h => by injection h with h; exact ST_inj.mp h, fun h => by rw [h]⟩
def dkT (T : TD) : D := .dk (T.map fun p => kS p.1) (T.map (·.2))
def lk (T : TD) (a : List Nat) : Option D := (T.find? fun p => decide (p.1 = a)).map (·.2)
theorem lk_cons (p : List Nat × D) (T : TD) (a : List Nat) : lk (p :: T) a = if p.1 = a then some p.2 else lk T a := by
  unfold lk
  rw [List.find?_cons]
  by_cases h : p.1 = a
  · rw [if_pos h, decide_eq_true h]; rfl
  · rw [if_neg h, decide_eq_false h]
theorem getK_T (T : TD) (a : List Nat) : getK (T.map fun p => kS p.1) (T.map (·.2)) (kS a) = lk T a := by
  induction T with
  | nil => rfl
  | cons p T ih =>
    rw [List.map_cons, List.map_cons, getK, ih, lk_cons]
    by_cases h : p.1 = a
    · rw [if_pos (kS_inj.mpr h), if_pos h]
    · rw [if_neg (fun z => h (kS_inj.mp z)), if_neg h]
theorem lk_isSome {T : TD} {a : List Nat} : (lk T a).isSome = decide (a ∈ T.map (·.1)) := by
  induction T with
  | nil => rfl
  | cons p T ih =>
    rw [lk_cons, List.map_cons]
    by_cases h : p.1 = a
    · rw [if_pos h]; simp [h]
    · have h' : ¬ a = p.1 := fun z => h z.symm
      rw [if_neg h, ih]; simp [h']
section
variable {Q : D → Prop} {E : Str → List Str → List D → Prop} {T : TD} {a : List Nat} {d e : D} {r : Rho}
theorem rs_inTk {neg : Bool} (q : Q (.bl (if neg then !decide (a ∈ T.map (·.1)) else decide (a ∈ T.map (·.1))))) : Rs (inK neg (.str (Sg a)) (dkT T)) Q E := by
  show Q (.bl (if neg then !(getK (T.map fun p => kS p.1) (T.map (·.2)) (kS a)).isSome else (getK (T.map fun p => kS p.1) (T.map (·.2)) (kS a)).isSome))
  rw [getK_T, lk_isSome]; exact q
theorem rs_getET (q : Q ((lk T a).getD e)) : Rs (getE (dkT T) (.str (Sg a)) e) Q E := by
  show Q ((getK (T.map fun p => kS p.1) (T.map (·.2)) (kS a)).getD e)
  rw [getK_T]; exact q
theorem rs_dD0 (q : Q (dkT [])) : Rs (dD0 r) Q E := q
theorem rs_listTk (q : Q (.lst (T.map fun p => .str (Sg p.1)))) : Rs (g1 listK [dkT T]) Q E := by
  show Q (.lst ((T.map fun p => kS p.1).map keyOf))
  rw [List.map_map]; exact q
theorem rs_lenTk (q : Q (.int T.length)) : Rs (g1 lenK [dkT T]) Q E := by
  show Q (.int (T.map fun p => kS p.1).length)
  rw [List.length_map]; exact q
theorem rs_itTk {Q : List D → Prop} (q : Q (T.map fun p => .str (Sg p.1))) : Rs (itemsK (dkT T)) Q E := by
  show Q ((T.map fun p => kS p.1).map keyOf)
  rw [List.map_map]; exact q
end
section
variable {Q : D → Prop} {E : Str → List Str → List D → Prop} {r : Rho} {fk fv : Rho → Res D} {ps : List FP}
theorem rs_disp (h : Rs (dPairs ps r) (fun kvs => Rs (mergeD [] [] kvs) Q E) E) : Rs (dDisp ps r) Q E := Rs.bind h
theorem rs_pnil {Q : List (D × D) → Prop} (q : Q []) : Rs (dPairs [] r) Q E := q
theorem rs_pcons {Q : List (D × D) → Prop} (h : Rs (fk r) (fun k => Rs (fv r) (fun d => Rs (dPairs ps r) (fun kvs => Q ((k, d) :: kvs)) E) E) E) : Rs (dPairs ((fk, fv) :: ps) r) Q E :=
  Rs.bind (h.impE (fun k q => Rs.bind (q.impE (fun d q => Rs.bind (q.impE (fun _ z => z) fun _ _ _ z => z)) fun _ _ _ z => z)) fun _ _ _ z => z)
end
section
variable {Q : D → Prop} {E : Str → List Str → List D → Prop} {r : Rho} {i : Nat} {n f : Str} {ns : List Str} {vs : List D} {d : D}
theorem rs_isX {isM : Str → Option Bool} {b : Bool} (h1 : r[i]? = some (some (.obj n ns vs))) (h2 : isM n = some b) (q : Q (.bl b)) : Rs (dIsX isM i r) Q E := by
  unfold dIsX
  rw [h1]
  dsimp only
  rw [h2]
  exact q
theorem rs_xf (h1 : r[i]? = some (some (.obj n ns vs))) (h2 : lookF ns vs f = some d) (q : Q d) : Rs (dXf i f r) Q E := by
  unfold dXf
  rw [h1]
  dsimp only
  rw [h2]
  exact q
end
section
variable {N B C : Rho → Prop} {R : D → Prop} {E : Rho → Str → List Str → List D → Prop} {r : Rho} {t u : Rho → Res Bool} {F K : Rho → SR}
/-- if t or u: F else: K, one test after the other -/
theorem ss_ifo (h : Rs (t r) (fun a => (a = true → Ss (F r) N R B C E) ∧ (a = false → Ss (ifF u F K r) N R B C E)) (E r)) : Ss (ifF (dOr t u) F K r) N R B C E := by
  unfold ifF
  refine ss_lift ?_
  refine rs_orc (h.impE (fun a q => ⟨fun ha => ?_, fun ha => ?_⟩) fun _ _ _ z => z)
  · exact q.1 ha
  · have q := q.2 ha
    unfold ifF at q
    cases hu : u r with
    | ok b => rw [hu] at q; exact q
    | err n ns vs => rw [hu] at q; exact q
    | bad => rw [hu] at q; exact q
theorem ss_ifa (h : Rs (t r) (fun a => (a = true → Ss (ifF u F K r) N R B C E) ∧ (a = false → Ss (K r) N R B C E)) (E r)) : Ss (ifF (dAnd t u) F K r) N R B C E := by
  unfold ifF
  refine ss_lift ?_
  refine rs_andc (h.impE (fun a q => ⟨fun ha => ?_, fun ha => ?_⟩) fun _ _ _ z => z)
  · have q := q.1 ha
    unfold ifF at q
    cases hu : u r with
    | ok b => rw [hu] at q; exact q
    | err n ns vs => rw [hu] at q; exact q
    | bad => rw [hu] at q; exact q
  · exact q.2 ha
end
end Dx
end S_DxAD
section S_DxAE
set_option Elab.async false
set_option linter.all false
set_option maxRecDepth 100000
set_option maxHeartbeats 2000000
namespace Dx
open PySem L2
end Dx
end S_DxAE
section S_DxAF
set_option Elab.async false
set_option linter.all false
set_option maxRecDepth 100000
set_option maxHeartbeats 4000000
namespace Dx
open PySem L2 PySem.Spec PyProof.Rows
end Dx
end S_DxAF
section S_DxAG
set_option Elab.async false
set_option linter.all false
set_option maxRecDepth 100000
set_option maxHeartbeats 4000000
namespace Dx
open PySem L2
end Dx
end S_DxAG
section S_DxAH
set_option Elab.async false
set_option linter.all false
set_option maxRecDepth 100000
set_option maxHeartbeats 2000000
namespace Dx
open PySem L2
end Dx
end S_DxAH
section S_DxAI
set_option Elab.async false
set_option linter.all false
set_option maxRecDepth 100000
set_option maxHeartbeats 2000000
namespace Dx
open PySem PySem.Spec L2 ItX PyProof.Rows
end Dx
end S_DxAI
section S_DxAJ
set_option Elab.async false
set_option linter.all false
set_option maxRecDepth 100000
set_option maxHeartbeats 2000000
namespace Dx
open PySem L2 ItX PyProof.Rows
section
variable {X : Cx} {c : Cf} {L G G' : List Ow} {f f1 : Rho → Res D} {fs gs : Rho → Res (List D)} {e o : Expr} {es : List Expr} {kws : List Keyword} {pos apos p : Pos} {C : Addr}
variable {k n : Nat} {fa : Addr} {fd : FuncData} {ps ks : List Str} {ms ms1 ms2 : List Bool} {rm : Bool} {F : List D → Res D}
theorem RpM.length {S H : Hp} : ∀ {ms : List Bool} {vs : List V} {ds : List D}, RpM c S H ms vs ds → vs.length = ms.length
  | [], vs, ds, h => by cases vs <;> cases ds <;> first | rfl | exact h.elim
  | b :: ms, vs, ds, h => by
    cases vs with
    | nil => cases b <;> cases ds <;> exact h.elim
    | cons v vs => cases ds with
      | nil => cases b <;> exact h.elim
      | cons d ds => cases b <;> exact congrArg Nat.succ (RpM.length h.2)
end
end Dx
end S_DxAJ
section S_DxAK
set_option Elab.async false
set_option linter.all false
set_option maxRecDepth 100000
set_option maxHeartbeats 2000000
namespace Dx
open PySem PySem.Spec L2 ItX PyProof.Rows
end Dx
end S_DxAK
section S_DxAL
set_option Elab.async false
set_option linter.all false
set_option maxRecDepth 100000
set_option maxHeartbeats 2000000
namespace Dx
open PySem PySem.Spec L2 ItX PyProof.Rows
theorem _root_.L2H.RoomH.units {k : Nat} {A : Around} (r : L2H.RoomH k A) : A.units + 64 < cLine := by have := r.un; omega
end Dx
end S_DxAL
section S_DxAM
set_option Elab.async false
set_option linter.all false
set_option maxRecDepth 100000
set_option maxHeartbeats 2000000
namespace Dx
open PySem L2 ItX
end Dx
end S_DxAM
section S_DxAN
set_option Elab.async false
set_option linter.all false
set_option maxRecDepth 100000
set_option maxHeartbeats 2000000
namespace Dx
open PySem L2 ItX
open PyProof.Rows hiding St
end Dx
end S_DxAN
section S_DxAO
set_option Elab.async false
set_option linter.all false
set_option maxRecDepth 100000
set_option maxHeartbeats 2000000
namespace Dx
open PySem L2 ItX
open PyProof.Rows hiding St
def rem (H : Hp) (p : Addr) : Hp := fun a => if a = p then none else H a
theorem rem_ne {H : Hp} {p a : Addr} (h : a ≠ p) : rem H p a = H a := if_neg h
theorem Ex.rem {S H : Hp} {p : Addr} (e : Ex S H) (n : S p = none) : Ex S (rem H p) := fun a o h => by
  have : a ≠ p := fun z => by subst z; rw [n] at h; cases h
  rw [rem_ne this]; exact e a o h
section
variable {c : Cf} {S0 H0 S H S' H' : Hp} {G : List Ow} {σ : St} {r : Rho}
/-- the own object in slot i is given away -/
theorem EnvOk.take (e : EnvOk c S0 H0 G S H σ r) {i : Nat} {d : D} {p : Addr} (k : kd G i = .o) (h : r[i]? = some (some d)) (hs : σ[i]? = some (some (.ref p))) (s3 : S p = none) (s4 : H0 p = none) : EnvOk c S0 H0 (G.set i .v) S (rem H p) σ (r.set i none) := by
  have sl : ∀ {j : Nat} {b : D}, (r.set i none)[j]? = some (some b) → i ≠ j ∧ r[j]? = some (some b) := fun {j b} hb => by
    rcases set_some hb with ⟨_, ea, _⟩ | ⟨ne, hb⟩
    · cases ea
    · exact ⟨ne, hb⟩
  refine ⟨⟨e.fwd.s, e.fwd.h.rem s4, e.fwd.sub.rem s3, e.fwd.new⟩, by rw [List.length_set]; exact e.len, fun j b hb => ?_, fun j l b b' q hj hl kj kl sj sl' => ?_, let ⟨A, hA⟩ := e.sto; ⟨A, ?_⟩⟩
  · obtain ⟨ne, hb⟩ := sl hb
    obtain ⟨v, h1, h2⟩ := e.slot j b hb
    refine ⟨v, h1, ?_⟩
    rw [kd_set_ne ne]
    cases kj : kd G j with
    | o =>
      rw [kj] at h2
      obtain ⟨q, ho, z1, z2, z3, z4, z5⟩ := h2
      subst z1
      have hq : q ≠ p := fun z => by subst z; exact ne (e.sep i j d b q h hb (isO_o k) (isO_o kj) hs h1)
      exact ⟨q, ho, rfl, by rw [rem_ne hq]; exact z2, z3, z4, z5⟩
    | i a =>
      rw [kj] at h2
      obtain ⟨z0, q, ho, z1, z2, z3, z4, z5⟩ := h2
      subst z1
      have hq : q ≠ p := fun z => by subst z; exact ne (e.sep i j d b q h hb (isO_o k) (by rw [kj]; trivial) hs h1)
      exact ⟨z0, q, ho, rfl, by rw [rem_ne hq]; exact z2, z3, z4, z5⟩
    | v => rw [kj] at h2; exact h2
    | b => rw [kj] at h2; exact h2
    | s P => rw [kj] at h2; exact h2
    | w => rw [kj] at h2; exact h2
    | x a C dd => rw [kj] at h2; exact h2
  · obtain ⟨n1, hj⟩ := sl hj
    obtain ⟨n2, hl⟩ := sl hl
    rw [kd_set_ne n1] at kj
    rw [kd_set_ne n2] at kl
    exact e.sep j l b b' q hj hl kj kl sj sl'
  · have np : ∀ a ∈ A, a ≠ p := fun a ha z => hA.own i d p h (isO_o k) hs (z ▸ ha)
    refine hA.sub (fun a ha => (hA.out a ha).1) (fun a ha => rem_ne (np a ha)) Ex.refl (fun j b q hj kj sj => ?_) fun j b kj hj => ?_
    · obtain ⟨n1, hj⟩ := sl hj
      rw [kd_set_ne n1] at kj
      exact hA.own j b q hj kj sj
    · obtain ⟨n1, hj⟩ := sl hj
      rw [kd_set_ne n1]
      exact ⟨rfl, hj, rfl⟩
end
end Dx
end S_DxAO
section S_DxAP
set_option Elab.async false
set_option linter.all false
set_option maxRecDepth 100000
set_option maxHeartbeats 2000000
namespace PySem
end PySem
end S_DxAP
section S_DxAR
set_option Elab.async false
set_option linter.all false
set_option maxRecDepth 100000
set_option maxHeartbeats 2000000
namespace Dx
open PySem L2 ItX
open PyProof.Rows hiding St
end Dx
end S_DxAR
section S_DxAS
set_option Elab.async false
set_option linter.all false
set_option maxRecDepth 100000
set_option maxHeartbeats 2000000
namespace Dx
open PySem L2 ItX
open PyProof.Rows hiding St
end Dx
end S_DxAS
section S_DxAT
set_option Elab.async false
set_option linter.all false
set_option maxRecDepth 100000
set_option maxHeartbeats 2000000
namespace Dx
open PySem L2 ItX
open PyProof.Rows hiding St
end Dx
end S_DxAT
section S_DxAU
set_option Elab.async false
set_option linter.all false
set_option maxRecDepth 100000
set_option maxHeartbeats 2000000
namespace Dx
open PySem L2 ItX
open PyProof.Rows hiding St
end Dx
end S_DxAU
section S_DxAV
set_option Elab.async false
set_option linter.all false
set_option maxRecDepth 100000
set_option maxHeartbeats 2000000
namespace Dx
open PySem L2 ItX
open PyProof.Rows hiding St
end Dx
end S_DxAV
section S_DxAW
set_option Elab.async false
set_option linter.all false
set_option maxRecDepth 100000
set_option maxHeartbeats 2000000
namespace Dx
open PySem L2 HandSPX
open PyProof.Rows hiding St
theorem frames_but {B h h' : Heap} {C : Addr} (hs : Heap.SameBut C h h') : ∀ {l : List Env}, C ∉ frs l → h.FunFrames B l → h'.FunFrames B l
  | [], _, _ => trivial
  | env :: l, hC, hf => by
    obtain ⟨hk, ⟨L, o, hL, hn, ho, hd⟩, hr⟩ := hf
    have hm : L ∈ frs (env :: l) := List.mem_filterMap.mpr ⟨env, List.mem_cons_self, hL⟩
    have hne : L ≠ C := fun z => hC (by rw [← z]; exact hm)
    refine ⟨hk, ⟨L, o, hL, hn, (hs.2 L hne).trans ho, hd⟩, frames_but hs (fun z => hC ?_) hr⟩
    obtain ⟨e, he, q⟩ := List.mem_filterMap.mp z
    exact List.mem_filterMap.mpr ⟨e, List.mem_cons_of_mem _ he, q⟩
theorem frames_sub {B B' h : Heap} (hs : ∀ b, B.get? b = none → B'.get? b = none) : ∀ {l : List Env}, h.FunFrames B l → h.FunFrames B' l
  | [], _ => trivial
  | env :: l, hf => by
    obtain ⟨hk, ⟨L, o, hL, hn, ho, hd⟩, hr⟩ := hf
    exact ⟨hk, ⟨L, o, hL, hs L hn, ho, hd⟩, frames_sub hs hr⟩
theorem flying_sub {B B' h : Heap} {l : List Env} {a : Addr} {Z : Obj → Prop} (hs : ∀ b o, B'.get? b = some o → B.get? b = some o) (x : FlyingZ B l a Z h) : FlyingZ B' l a Z h := by
  have hn : ∀ b, B.get? b = none → B'.get? b = none := fun b e => by
    cases q : B'.get? b with
    | none => rfl
    | some o => rw [hs b o q] at e; cases e
  obtain ⟨f1, f2, f3, oe, vs, T, oT, ts, he, hz, hd, h1, hnT, r⟩ := x
  exact ⟨fun b o e => f1 b o (hs b o e), hn a f2, frames_sub hn f3, oe, vs, T, oT, ts, he, hz, hd, h1, hn T hnT, r⟩
theorem held_but {B h h' : Heap} {l : List Env} {a L C : Addr} {Z : Obj → Prop} {m : Str → Option Value} (hs : Heap.SameBut C h h') (hC : h.Ns C m) (hB : B.get? C = none) (hl : C ∉ frs l) (x : HeldZ B l a Z L h) : HeldZ B l a Z L h' := by
  obtain ⟨oC, es, ep, hC, hdC, _⟩ := hC
  obtain ⟨f1, f2, f3, oe, vs, T, oT, ts, he, hz, hd, h1, hnT, hTe, hT, hdT, h3⟩ := x
  have ne : ∀ b o (us : Array Value), h.get? b = some o → o.data = .fields us → b ≠ C := fun b o us e hd z => by
    rw [z, hC] at e; cases e; rw [hdC] at hd; cases hd
  refine ⟨fun b o e => (hs.2 b fun z => ?_).trans (f1 b o e), f2, frames_but hs hl f3, oe, vs, T, oT, ts, (hs.2 a (ne a oe vs he hd)).trans he, hz, hd, h1, hnT, hTe, (hs.2 T (ne T oT ts hT hdT)).trans hT, hdT, h3⟩
  rw [z, hB] at e; cases e
theorem ns_upTo {h h' : Heap} {C : Addr} {m : Str → Option Value} (x : h.Ns C m) (u : h.UpToSlots h') : h'.Ns C m := by
  obtain ⟨o, es, ep, ho, hd, r⟩ := x
  obtain ⟨sl, e⟩ := u C o ho fun vs z => by rw [hd] at z; cases z
  exact ⟨_, es, ep, e, hd, r⟩
section
variable {M : Model} {A : Around} {E : Value → Shared → Prop} {s : Shared} {B : Heap} {l : List Env} {a L L0 : Addr} {Z : Obj → Prop}
/-- the exception is noted at the frame again, and goes on -/
theorem passOn_held {α : Type} {what : String} {cenv : Env} {Q : α → Shared → Prop} (hf : cenv.frame = some L) (hh : HeldZ B l a Z L0 s.heap) (hE : ∀ h', HeldZ B l a Z L h' → s.heap.UpToSlots h' → E (.ref a) { s with heap := h' }) :
    wpAny M A (PySem.passOn what (.ref a) cenv : Sem α) Q E s := by
  obtain ⟨hkb, hn, hl, oe, vs, T, oT, ts, he, hz, hd, h1, hnT, hTe, hT, hdT, h3⟩ := hh
  have hsz3 : 3 < ts.size := (Array.getElem?_eq_some_iff.mp h3).1
  have other : ∀ b, b ≠ T → (s.heap.update T (Obj.mapFields (·.setIfInBounds 3 ((some L : Option Addr).elim Value.none fun f => rawInt f)))).get? b = s.heap.get? b :=
    fun b hb => Heap.get?_update_other _ _ (Ne.symm hb)
  have noRecord : ∀ b o, s.heap.get? b = some o → (∀ vs, o.data ≠ .fields vs) → b ≠ T := fun b o hb hnf q => by
    rw [q, hT] at hb; injection hb with hb; subst hb; exact hnf ts hdT
  unfold PySem.passOn
  refine wpAny_bind (wpAny_field he hd h1 ?_)
  rw [if_neg (by simp)]
  refine wpAny_bind ?_
  unfold setFlight
  refine wpAny_bind (wpAny_field he hd h1 ?_)
  rw [if_pos (show (Value.ref T != Value.none) = true from by simp), hf]
  refine wpAny_setField hT hdT hsz3 (wpAny_throw (hE _ ⟨fun b o hbo => (other b fun q => by rw [q, hnT] at hbo; cases hbo).trans (hkb b o hbo), hn, ?_, ?_⟩ fun b o hb hnf => ⟨o.slots, (other b (noRecord b o hb hnf)).trans hb⟩))
  · exact hl.of_keeps fun b o hb hnf => ⟨o, (other b (noRecord b o hb hnf)).trans hb, rfl⟩
  · exact ⟨oe, vs, T, _, _, (other a (Ne.symm hTe)).trans he, hz, hd, h1, hnT, hTe, Heap.get?_update_self _ hT (Obj.isFreed_of_fields (Obj.data_mapFields hdT _)), Obj.data_mapFields hdT _, by simp [hsz3]⟩
theorem note_eq {x : Value} {e1 e2 : Env} (h : e1.frame = e2.frame) : noteFrame x e1 = noteFrame x e2 := by
  unfold noteFrame PySem.frameOf
  rw [h]
end
/-- what stands behind a comprehension's block, if an exception leaves it: fr is the frame -/
def outE (M : Model) (A : Around) (E : Value → Shared → Prop) (C : Addr) (fr : Option Addr) (x : Value) (s' : Shared) : Prop :=
  ∃ m, s'.heap.Ns C m ∧ ∀ h', Heap.SameBut C s'.heap h' → ∀ cenv : Env, cenv.locals = C → cenv.frame = fr → wpAny M A (PySem.passOn "comprehension.variables-let-go" x cenv : Sem Value) (fun _ _ => False) E { s' with heap := h' }
/-- the block's context, with what its exceptions come to -/
abbrev blkE (X : Cx) (s : Shared) (H : Hp) (scope : Scope) (cenv : Env) (fp : List Addr) : Cx :=
  { X.blk s H scope cenv fp with xe := fun u s' => notedBy (model X.prog X.w) X.A cenv (fun e s'' => outE (model X.prog X.w) X.A X.xe s.heap.objs.size X.env.frame e s'') u s' }
section
variable {X : Cx} {pins pb : List (Addr × Obj)} {σ σb : St} {H H3 : Hp} {s s3 s' : Shared} {scope : Scope} {ce : Env} {fp : List Addr} {W : WX} {E : XK} {u : Value}
theorem blk_exc (I3 : Inv X pins σ H3 s3) (hst : X.stack = X.env :: X.outer) (hfr : X.env.frame = some X.env.locals) (hce : ce.frame = X.env.frame) (hcl : ce.locals = s3.heap.objs.size) (tk : Takes X W) (hE : ∀ cls d H', E cls d H' → W cls d σ H')
    (f3 : ∀ b ∈ fp, FpOk X pins H3 b ∧ b < s3.heap.objs.size)
    (Ib : Inv (blkE X s3 H3 scope ce fp) pb σb H s) (c : L2.CX X.prog X.w X.stack H s E u s') : (blkE X s3 H3 scope ce fp).xe u s' := by
  obtain ⟨a, B, H', cls, d, rfl, fl, hok, ub, na, os, ag, hc⟩ := c
  generalize hC : s3.heap.objs.size = C at hcl
  have hCn : s3.heap.get? C = none := by
    cases q : s3.heap.get? C with
    | none => rfl
    | some o => exact absurd (Heap.lt_size q) (by rw [hC]; exact Nat.lt_irrefl _)
  have hHC : H C = none := by
    have z : H ce.locals = none := Ib.free
    rw [hcl] at z; exact z
  have hCf : C ∉ frs X.stack := fun hm => by
    obtain ⟨_, o, e, _⟩ := I3.stack.mem hm
    rw [hCn] at e; cases e
  have hCfp : C ∉ fp := fun hm => absurd (f3 C hm).2 (by rw [hC]; exact Nat.lt_irrefl _)
  obtain ⟨m, ⟨oC, es, ep, hoC, hdC, rC⟩, _⟩ := Ib.loc
  rw [show (blkE X s3 H3 scope ce fp).env.locals = C from hcl] at hoC
  have hoC' : s'.heap.get? C = some oC := fl.1 C oC (ub.keep C oC hoC hHC hCf)
  have hH'C : H' C = none := ub.free C oC hoC hHC
  -- the ground without the block's own dict
  obtain ⟨B', b1, b2⟩ := restrict B fun b => decide (b ≠ C)
  have bB : ∀ b o, B'.get? b = some o → B.get? b = some o ∧ b ≠ C := fun b o e => by
    by_cases hb : b = C
    · rw [b2 b (by simp [hb])] at e; cases e
    · rw [b1 b (by simp [hb])] at e; exact ⟨e, hb⟩
  have Bb : ∀ b o, b ≠ C → B.get? b = some o → B'.get? b = some o := fun b o hb e => by rw [b1 b (by simp [hb])]; exact e
  have hB'C : B'.get? C = none := b2 C (by simp)
  have fl' : HandSPX.FlyingZ B' X.stack a (Zc cls d) s'.heap := flying_sub (fun b o e => (bB b o e).1) fl
  have hok' : HOk X.prog X.w H' B' := fun b o q => (hok b o q).stay (fun b2 w2 hc2 r => Bb b2 w2 (fun z => by
    rcases hc2 with h | h
    · rw [← h, z, hH'C] at q; cases q
    · rw [z, hH'C] at h; cases h) r) (fun _ r => r) fun _ _ r => r
  obtain ⟨G, g1, g2⟩ := restrict s'.heap fun b => (B'.get? b).isSome || decide (b ∈ frs X.stack)
  have st : B'.StaysIn s'.heap := fl'.1
  have gB : ∀ b o, B'.get? b = some o → G.get? b = some o := fun b o e => by
    rw [g1 b (by simp [e])]
    exact st b o e
  have gF : ∀ b, b ∈ frs X.stack → G.get? b = s'.heap.get? b := fun b hb => g1 b (by simp [hb])
  have og : ∀ b o, G.get? b = some o → s'.heap.get? b = some o ∧ ((B'.get? b).isSome = true ∨ b ∈ frs X.stack) := fun b o e => by
    cases q : ((B'.get? b).isSome || decide (b ∈ frs X.stack)) with
    | false => rw [g2 b q] at e; cases e
    | true =>
      rw [g1 b q] at e
      exact ⟨e, by simpa [Bool.or_eq_true] using q⟩
  have base : Un (frs X.stack) fp H3 H s3.heap s.heap := Ib.base
  have ne : ∀ b o, s3.heap.get? b = some o → b ≠ C := fun b o e z => by rw [z, hCn] at e; cases e
  have I7 : Inv X pins σ H' { s3 with heap := G, gens := s'.gens, drawn := s'.drawn, toks := s'.toks } := by
    refine I3.call (ch := fp) ⟨fun b o e n hb hx => gB b o (Bb b o (ne b o e) (ub.keep b o (base.keep b o e n hb hx) (base.free b o e n hx) hb)), fun b o e n hb hx => ?_, fun b o e n hx => ?_, fun b o e hx => ?_, fun b xs e => ub.tups b xs (base.tups b xs e), fun b o w e => ub.frzs b o w (base.frzs b o w e), fun b ps e => ?_⟩ (hok'.kept gB) ag fun b hb => ⟨(f3 b hb).1.2.2.2.1, (f3 b hb).1.2.1, (f3 b hb).1.2.2.2.2.1, (f3 b hb).1.2.2.2.2.2⟩
    · obtain ⟨sl, q⟩ := base.slot b o e n hb hx
      obtain ⟨sl2, q2⟩ := ub.slot b _ q hb
      exact ⟨sl2, by rw [gF b hb]; exact q2⟩
    · obtain ⟨o', q⟩ := base.there b o e hx
      exact ub.free b o' q (base.free b o e n hx)
    · obtain ⟨o', q⟩ := base.there b o e hx
      by_cases hb : b ∈ frs X.stack
      · obtain ⟨sl, q2⟩ := ub.slot b _ q hb
        exact ⟨_, by rw [gF b hb]; exact q2⟩
      · obtain ⟨o2, q2⟩ := ub.there b o' q hb
        exact ⟨o2, gB b o2 (Bb b o2 (ne b o e) q2)⟩
    · obtain ⟨more, q⟩ := base.tbls b ps e
      obtain ⟨more2, q2⟩ := ub.tbls b _ q
      exact ⟨more ++ more2, by rw [q2, Array.append_assoc]⟩
  have nb : ∀ b o, G.get? b = some o → b ∉ frs X.stack → B'.get? b = some o := fun b o e hb => by
    obtain ⟨e', h⟩ := og b o e
    rcases h with h | h
    · obtain ⟨o', q⟩ := Option.isSome_iff_exists.mp h
      have z := st b o' q
      rw [e'] at z; cases z
      exact q
    · exact absurd h hb
  have gC : ∀ b o, G.get? b = some o → b ≠ C := fun b o e z => by
    rcases (og b o e).2 with h | h
    · rw [z, hB'C] at h; cases h
    · exact hCf (by rw [← z]; exact h)
  have hAf : X.A.frames = some (X.env :: X.outer) := by rw [I3.ok.frames, hst]
  show wpAny (model X.prog X.w) X.A (noteFrame (.ref a) ce) _ _ s'
  rw [note_eq hce]
  rw [hst] at fl' hCf
  refine HandSPX.looks_onZ Zc.steady hAf hfr fl' fun h1 hh up1 => ?_
  have nsC : h1.Ns C m := ns_upTo ⟨oC, es, ep, hoC', hdC, rC⟩ up1
  refine ⟨m, by rw [hC]; exact nsC, fun h2 sb cenv hl hf => ?_⟩
  rw [hC] at sb
  refine passOn_held (hf.trans hfr) (held_but sb nsC hB'C hCf hh) fun h4 hh4 up4 => ?_
  refine tk _ _ ⟨a, B', _, pins, σ, H', cls, d, rfl, I7, nb, fun b o e nf => ?_, .inr (.inr (by rw [hst]; exact hh4)), na, os.trans Ib.os, ag, hE _ _ _ hc⟩
  obtain ⟨sl1, q1⟩ := up1 b o (og b o e).1 nf
  have q2 : h2.get? b = some { o with slots := sl1 } := (sb.2 b (gC b o e)).trans q1
  obtain ⟨sl2, q3⟩ := up4 b _ q2 nf
  exact ⟨sl2, q3⟩
end
def postE (M : Model) (A : Around) (E : Value → Shared → Prop) (Q : Value → Shared → Prop) (acc : Value) (C : Addr) (fr : Option Addr) (r : Result) (s' : Shared) : Prop :=
  match r with
  | .ok _ => ∃ m, s'.heap.Ns C m ∧ ∀ h', Heap.SameBut C s'.heap h' → Q acc { s' with heap := h' }
  | .error x => outE M A E C fr x s'
section
variable {M : Model} {A : Around} {E : Value → Shared → Prop} {s : Shared} {env : Env}
theorem wp_compE {e : Expr} {scope : Scope} {pos : Pos} {newAcc first : Sem Value} {g : Comprehension} {gs : List Comprehension} {cl : List (Str × Addr)} {fr : Option Addr} {Q : Value → Shared → Prop}
    (hcl : clausesOf e = g :: gs) (hs : ∀ x, foldedSetIterable g.iter env x = pure x) (hclos : closureFor scope env = pure cl) (hkind : scope.kind = .function) (hnames : ∀ x ∈ scope.names, x.2 = .local → scope.names.lookup x.1 = some .local)
    (h : wpAny M A first (fun x s₁ => wpAny M A (pyIter x) (fun it s₂ => wpAny M A newAcc (fun acc s₃ => wpAny M A (newFunctionEnv scope env.globals cl [] env.qual none .none (some env)) (fun cenv s₄ =>
      cenv.frame = fr ∧ codeAny M A (.compStart e 0 it acc { cenv with scope := relabel scope env }) (postE M A E Q acc cenv.locals fr) s₄) E s₃) E s₂) E s₁) E s) :
    wpAny M A (comprehension e scope env pos newAcc false first none) Q E s := by
  unfold comprehension
  rw [hclos, hcl]
  refine wpAny_bind (wpAny_mono h (fun x s₁ h₁ => wpAny_bind (wpAny_standAt (wpAny_bind (wpAny_of_eq (hs x) (wpAny_bind (wpAny_holding (wpAny_mono h₁ (fun it s₂ h₂ =>
    wpAny_standIf (wpAny_bind (wpAny_mono h₂ (fun acc s₃ h₃ => wpAny_bind (wpAny_pure (wpAny_bind (wpAny_mono h₃ (fun cenv s₄ h₄ => ?_) fun _ _ h' => h')))) fun _ _ h' => h')))
      fun _ _ h' => h'))))))) fun _ _ h' => h')
  dsimp only
  have hv : ∀ x ∈ (scope.names.filter fun x => (x.2 == .local || x.2 == .cell) && x.1 != (".0" : Str)).reverse, x.2 = .local → Env.kindOf { cenv with scope := relabel scope env } x.1 = some .local :=
    fun x hx hl => lookup_relabel_local (hnames x (List.mem_filter.mp (List.mem_reverse.mp hx)).1 hl)
  refine wpAny_holding (wpAny_bind (wpAny_attempt (wpAny_holding (wpAny_run (codeAny_mono h₄.2 fun r s' hr => ?_)))))
  cases r with
  | ok f =>
    obtain ⟨m, hn, hr⟩ := hr
    exact wpAny_bind (wpAny_holding (wpAny_comp_letGo (cenv := { cenv with scope := relabel scope env }) hkind _ s' m hv hn fun h' m' _ hs' => wpAny_pure (hr h' hs')))
  | error x =>
    obtain ⟨m, hn, hr⟩ := hr
    exact wpAny_bind (wpAny_holding (wpAny_comp_letGo (cenv := { cenv with scope := relabel scope env }) hkind _ s' m hv hn fun h' m' _ hs' => wpAny_mono (hr h' hs' _ rfl h₄.1) (fun _ _ f => f.elim) fun _ _ y => y))
end
section
variable {X : Cx} {f : Value → Shared → Prop}
theorem ok_xe (x : X.Ok) : Cx.Ok { X with xe := f } := ⟨x.mod, x.kind, x.glob, x.blt, x.above, x.inj, x.has, x.cab, x.hd, x.frames, x.stk, x.exf, x.bs, x.bsz, x.noex, x.exfs, x.funs, x.frf⟩
theorem inv_xe {pins : List (Addr × Obj)} {σ : St} {H : Hp} {s : Shared} (I : Inv X pins σ H s) : Inv { X with xe := f } pins σ H s := ⟨ok_xe I.ok, I.os, I.bare, I.base, I.loc, I.cell, I.free, I.freeC, I.pin, I.hok, I.len⟩
theorem lc_coreE {pins : List (Addr × Obj)} {s : Shared} {σ : St} {H : Hp} {Q : VK} {elt tg iter : Expr} {ifs : List Expr} {scope : Scope} {own : List (Str × Nat)} {pos pos' : Pos} {wi : TI} {g : TG} {tt : TT} {te : TE} {Qf : Value → Shared → Prop}
    {Wx : WX} (tk : Takes X Wx) (hst : X.stack = X.env :: X.outer) (hfr : X.env.frame = some X.env.locals) (hc : X.calm = true) (hN : X.N.Nodup) (I : Inv X pins σ H s) (hi : PI X tg iter wi) (ok : BlkOk X.N X.env.scope scope own)
    (hg : ∀ (s : Shared) (H : Hp) (C : Addr) (cl : List (Str × Addr)) (fp : List Addr), PG (blkE X s H scope (compEnvC scope cl C X.env) fp) tg g) (ht : ∀ (s : Shared) (H : Hp) (C : Addr) (cl : List (Str × Addr)) (fp : List Addr), PTs (blkE X s H scope (compEnvC scope cl C X.env) fp) ifs tt)
    (he : ∀ (s : Shared) (H : Hp) (C : Addr) (cl : List (Str × Addr)) (fp : List Addr), (∀ E : XK, (∀ cls d H1, E cls d H1 → Wx cls d σ H1) → Passes (L2.CX X.prog X.w) (blkE X s H scope (compEnvC scope cl C X.env) fp) E) → PE (blkE X s H scope (compEnvC scope cl C X.env) fp) elt te) (hs : ∀ x, foldedSetIterable iter X.env x = pure x)
    (h : tLc wi g tt te (own.map (·.2)) σ H Q)
    (hRR : ∀ D C s' m H', Inv X pins σ H' s' → Q (.ref D) H' → s'.heap.Ns C m → FpOk X pins H' C → postE (model X.prog X.w) X.A X.xe Qf (.ref D) C X.env.frame (.ok .next) s') :
    wpAny (model X.prog X.w) X.A (comprehension (.ListComp elt [⟨tg, iter, ifs, 0⟩] scope pos) scope X.env pos' (newList []) false (eval iter X.env) none) Qf X.xe s := by
  have hfree : ∀ y ∈ scope.names, y.2 = .free → ∃ c, X.env.cells.lookup y.1 = some c := fun y hy e => by
    rcases ok.free y hy e with k | k
    · exact I.ok.has _ (.inl k)
    · exact I.ok.has _ (.inr k)
  refine wp_compE (fr := X.env.frame) rfl hs (closure_ok hfree) ok.kind (fun y hy e => by rw [ok.uniq y hy, e])
    (thn (hi.run pins s σ H _ I h) fun xv s1 hx => thn hx fun itv s2 h2 => ?_)
  obtain ⟨it, fp, tn, J, H2, e, I2, T, st2, f2, q⟩ := h2
  subst e
  refine wpAny_newObj_type (newEnv_comp ⟨rfl, ?_⟩) (by show 0 ≤ sizeLine; decide)
  generalize hD : s2.heap.objs.size = D
  have hDn : H2 D = none := I2.hok.fresh (Nat.le_of_eq hD)
  obtain ⟨W, ⟨m0, w0⟩, turn⟩ := q D hDn
  -- the new list
  generalize hs3 : ({ s2 with heap := s2.heap.push { cls := .type "list", data := .seq ([] : List Value).toArray } } : Shared) = s3
  have I3 : Inv X pins σ (upd H2 D (.lst [])) s3 := by
    rw [← hs3]
    refine I2.laid (t' := s2.toks) (fun b o e => Heap.get?_push_of_some _ e) (Nat.le_of_eq hD) ⟨Nat.zero_le _, [], 0, .nil, ?_⟩
    rw [← hD]
    exact Heap.get?_push_size _ rfl
  have h3 : s3.heap = s2.heap.push { cls := .type "list", data := .seq ([] : List Value).toArray } := by rw [← hs3]
  have sz : ∀ b ∈ fp, b < s2.heap.objs.size := fun b hb => by
    obtain ⟨o, e, _⟩ := T.obj _ _ st2 b hb
    exact Heap.lt_size e
  have f3 : ∀ b ∈ fp, FpOk X pins (upd H2 D (.lst [])) b ∧ b < s3.heap.objs.size := fun b hb => by
    have hlt := sz b hb
    refine ⟨⟨?_, (f2 b hb).2⟩, by rw [h3, Heap.size_push]; exact Nat.lt_succ_of_lt hlt⟩
    rw [upd_ne (by rw [← hD]; exact Nat.ne_of_lt hlt)]
    exact (f2 b hb).1
  have st3 : tn 0 s3.heap := T.keep _ _ _ st2 fun b _ o e => by rw [h3]; exact Heap.get?_push_of_some _ e
  have I4 := inv_xe (f := fun u s' => notedBy (model X.prog X.w) X.A (compEnvC scope (cellsFrom (s3.heap.objs.size + 1) scope.names (cloFrom X.env.cells scope.names [])) s3.heap.objs.size X.env) (fun e s'' => outE (model X.prog X.w) X.A X.xe s3.heap.objs.size X.env.frame e s'') u s') (block_start I3 ok hN f3)
  have pg := hg s3 (upd H2 D (.lst [])) s3.heap.objs.size (cellsFrom (s3.heap.objs.size + 1) scope.names (cloFrom X.env.cells scope.names [])) fp
  have pt := ht s3 (upd H2 D (.lst [])) s3.heap.objs.size (cellsFrom (s3.heap.objs.size + 1) scope.names (cloFrom X.env.cells scope.names [])) fp
  have pe := he s3 (upd H2 D (.lst [])) s3.heap.objs.size (cellsFrom (s3.heap.objs.size + 1) scope.names (cloFrom X.env.cells scope.names [])) fp fun E hE pins' σ' H' s' e s'' Ib c => blk_exc I3 hst hfr rfl rfl tk hE f3 Ib c
  show codeAny _ _ (.compStart (.ListComp elt [⟨tg, iter, ifs, 0⟩] scope pos) 0 (.ref it) (.ref D) (compEnvC scope (cellsFrom (s3.heap.objs.size + 1) scope.names (cloFrom X.env.cells scope.names [])) s3.heap.objs.size X.env)) (postE (model X.prog X.w) X.A X.xe Qf (.ref D) s3.heap.objs.size X.env.frame) { s3 with heap := pushCells (s3.heap.push { cls := .type "dict", data := .dict #[] }) scope.names }
  have nfp : ∀ b ∈ fp, (upd H2 D (.lst [])) b = none := fun b hb => (f3 b hb).1.1
  generalize hce : compEnvC scope (cellsFrom (s3.heap.objs.size + 1) scope.names (cloFrom X.env.cells scope.names [])) s3.heap.objs.size X.env = ce at I4 pg pt pe ⊢
  have cL : ce.locals = s3.heap.objs.size := by subst hce; rfl
  generalize hH3 : upd H2 D (.lst []) = H3 at I3 I4 pg pt pe w0 nfp f3
  generalize hs4 : ({ s3 with heap := pushCells (s3.heap.push { cls := .type "dict", data := .dict #[] }) scope.names } : Shared) = s4 at I4 ⊢
  have st4 : tn 0 s4.heap := T.keep _ _ _ st3 fun b _ o e => by rw [← hs4]; exact pushCells_keeps _ _ _ _ (Heap.get?_push_of_some _ e)
  have stat : ∀ {σ' : St} {H' : Hp} {s' : Shared}, Inv (blkE X s3 H3 scope ce fp) [] σ' H' s' → (∀ b ∈ fp, H' b = none) → ∀ b ∈ fp, FpOk (blkE X s3 H3 scope ce fp) [] H' b := fun {σ' H' s'} I' hn b hb =>
    ⟨hn b hb, (I'.ok.exf b hb).1, I'.ok.exfs b hb, .inl hb, fun x c e => (I'.ok.exf b hb).2 x c e, fun p hp => absurd (show p ∈ ([] : List (Addr × Obj)) ++ [] from hp) (by simp)⟩
  have loop : codeAny (model X.prog X.w) X.A (.compLoop (.ListComp elt [⟨tg, iter, ifs, 0⟩] scope pos) 0 (.ref it) (.ref D) ce) (postE (model X.prog X.w) X.A X.xe Qf (.ref D) s3.heap.objs.size X.env.frame) s4 := by
    refine compLoop_any (fun n s' => ∃ i H', Inv (blkE X s3 H3 scope ce fp) [] (wipe σ (own.map (·.2))) H' s' ∧ tn i s'.heap ∧ (∀ b ∈ fp, H' b = none) ∧ W i n H') ?_ m0 ⟨0, H3, I4, st4, nfp, w0⟩
    rintro n s5 ⟨i, H5, I5, st5, n5, w5⟩
    rcases turn i n H5 w5 with ⟨stop, qq⟩ | ⟨go, Nx, hNx, step⟩
    · have td := T.done (blkE X s3 H3 scope ce fp) rfl rfl rfl hc i [] s5 _ H5 (fun _ _ => False) I5 (stat I5 n5) st5 stop
      refine thnF td fun r s6 ⟨hr, I6⟩ => ?_
      subst hr
      -- back in the def's context
      have I7 : Inv X pins σ H5 s6 := I3.call' (ch := fp) I6.os I6.base I6.hok I6.bare fun b hb => ⟨(f3 b hb).1.2.2.2.1, (f3 b hb).1.2.1, (f3 b hb).1.2.2.2.2.1, (f3 b hb).1.2.2.2.2.2⟩
      have nC : H5 s3.heap.objs.size = none := by
        have z : H5 ce.locals = none := I6.free
        rw [cL] at z
        exact z
      obtain ⟨m, hn, _⟩ := I6.loc
      have hn : s6.heap.Ns ce.locals m := hn
      rw [cL] at hn
      exact hRR D s3.heap.objs.size s6 m H5 I7 qq hn (I3.fpOk (Nat.le_refl _) nC)
    · have ti := T.item (blkE X s3 H3 scope ce fp) rfl rfl rfl hc i [] s5 _ H5 (fun _ _ => False) I5 (stat I5 n5) st5 go
      refine thnF ti fun r s6 ⟨u, hr, h6⟩ => ?_
      subst hr
      refine thnF h6 fun _ s7 ⟨x, H7, I7, r7, y7, st7, n7⟩ => ?_
      have I7' := I7.pinned (stat I7 n7) (T.obj _ _ st7)
      refine wpAny_mono (pg.run _ s7 _ H7 x u _ I7' r7 (step x H7 y7)) (fun _ s8 ⟨σ8, H8, I8, hw8, q8⟩ => ?_) (fun _ _ z => z)
      refine wpAny_mono (pt.run _ s8 σ8 H8 _ I8 q8) (fun b s9 ⟨H9, I9, q9⟩ => ?_) (fun _ _ z => z)
      -- the turn's end
      have fin : ∀ {s' : Shared} {H' : Hp}, Inv (blkE X s3 H3 scope ce fp) ([] ++ pinsAt fp s7.heap) σ8 H' s' → Nx H' → ∃ m, m < n ∧ ∃ i H', Inv (blkE X s3 H3 scope ce fp) [] (wipe σ (own.map (·.2))) H' s' ∧ tn i s'.heap ∧ (∀ b ∈ fp, H' b = none) ∧ W i m H' := fun {s' H'} I' nx => by
        obtain ⟨m', hm, w'⟩ := hNx H' nx
        have pin' : ∀ b ∈ fp, ∀ o, s7.heap.get? b = some o → s'.heap.get? b = some o ∧ H' b = none := fun b hb o e =>
          let z := I'.pin (b, o) (List.mem_append_right _ (List.mem_append_right _ (mem_pinsAt hb e)))
          ⟨z.1, z.2.1⟩
        have hl : (wipe σ (own.map (·.2))).length = σ8.length := by rw [← hw8, wipe_length]
        refine ⟨m', hm, i + 1, H', (I'.unpinned (pins := [])).weak hl (fun j v e => ?_), T.keep _ _ _ st7 fun b hb o e => (pin' b hb o e).1, fun b hb => ?_, w'⟩
        · rw [← hw8] at e
          exact (wipe_some e).1
        · obtain ⟨o, e, _⟩ := T.obj _ _ st7 b hb
          exact (pin' b hb o e).2
      cases b with
      | false =>
        simp only [Bool.false_eq_true, if_false] at q9 ⊢
        exact fin I9 q9
      | true =>
        simp only [if_true] at q9 ⊢
        refine wpAny_mono (pe.run _ s9 σ8 H9 _ I9 q9) (fun z s10 ⟨yv, H10, I10, r10, acc, hD10, hz10, nx⟩ => ?_) (fun _ _ z => z)
        exact app_ok (X := blkE X s3 H3 scope ce fp) I10 hD10 hz10 r10 fun s11 I11 => fin I11 nx
  exact codeAny_compStart_list loop (T.self X.A 0 _ _ _ st4 loop)
end
/-- within the block: what is raised is what the def lets out at the slots σ -/
abbrev cB (c : Cf) (σ : St) : Cf := ⟨c.K, c.cm, fun cls d _ H => c.W cls d σ H, none, c.rm⟩
def lcLoopE (t : D → Rho → Res Rho) (tt : Rho → Res Bool) (fe : Rho → Res D) (rw : Rho) : List D → Res (List D)
  | [] => .ok []
  | d :: ds => match t d rw with
    | .ok r1 => match tt r1 with
      | .ok true => (fe r1).bind fun x => (lcLoopE t tt fe rw ds).bind fun xs => .ok (x :: xs)
      | .ok false => lcLoopE t tt fe rw ds
      | _ => .bad
    | _ => .bad
noncomputable def dLcE (its : Rho → Res (List D)) (t : D → Rho → Res Rho) (tt : Rho → Res Bool) (fe : Rho → Res D) (vs : List Nat) : Rho → Res D := fun r => (its r).bind fun ds => guard (ds.length ≤ sizeLine) ((lcLoopE t tt fe (wipeR r vs) ds).bind fun xs => .ok (.lst xs))
section
variable {X : Cx} {c : Cf} {L G G' : List Ow} {S0 H0 S H : Hp} {r : Rho}
theorem envB {σ σ1 : St} (e : EnvOk c.calm S0 H0 G S H σ r) : EnvOk (cB c σ1) S0 H0 G S H σ r := by
  cases e
  constructor <;> assumption
theorem lc_rdE {its : Rho → Res (List D)} {t : D → Rho → Res Rho} {tt : Rho → Res Bool} {fe : Rho → Res D} {vs : List Nat} : ∀ σ H Q, tO c G (dLcE its t tt fe vs) σ H Q →
    tLc (iDl c G its) (gD c.calm G G' vs t) (tT c.calm G' tt) (tV (cB c σ) G' fe) vs σ H Q := fun σ H Q ⟨S0, H0, S, r, ok, p⟩ => by
  refine ⟨S0, H0, S, r, ok, p.unbind.imp fun ds S1 H1 w1 p1 J gv Dl hD => ?_⟩
  obtain ⟨hl, p1⟩ := p1.gd
  obtain ⟨Gd, Y, wk, hG, hY⟩ := gv
  have ok1 := ok.go w1
  have okw := ok1.wiped vs
  have nS : S1 Dl = none := ok1.ex.nn hD
  refine lc_it wk (fun i H' => ∃ S' acc accD, Fwd S1 H1 S' H' ∧ S' Dl = none ∧ H' Dl = some (.lst acc) ∧ RpA c.K c.cm S' acc accD ∧ PostG c σ S1 H1 ((lcLoopE t tt fe (wipeR r vs) (ds.drop i)).bind fun xs => .ok (.lst (accD ++ xs))) (fun a S' H' => ∀ b, mO c H S' H' b a → Q b H') ∧ accD.length ≤ i)
    ⟨S1, [], [], Fwd.heap ok1.ex hD, nS, upd_same, .nil, by rw [List.drop_zero]; exact p1, Nat.le_refl _⟩ ?_ ?_ ?_
  · rintro i H' _ ⟨S', acc, accD, fw, _⟩
    exact hG S' H' fw.s fw.sub fw.h
  · rintro i x H' H2 hi ⟨S', acc, accD, fw, n1, h1, r1, hr, hn⟩ y
    obtain ⟨S2, d, fw2, hd, hx⟩ := hY i S' H' x H2 hi fw.s fw.sub y
    have hdrop : ds.drop i = d :: ds.drop (i + 1) := by
      rw [List.drop_eq_getElem_cons hi]
      rw [List.getElem?_eq_getElem hi] at hd
      cases hd; rfl
    rw [hdrop] at hr
    unfold lcLoopE at hr
    refine ⟨S0, H0, S2, wipeR r vs, d, okw.go (fw.trans fw2), hx, ?_⟩
    cases ht : t d (wipeR r vs) with
    | err _ _ _ => rw [ht] at hr; exact hr.elim
    | bad => rw [ht] at hr; exact hr.elim
    | ok r2 =>
      rw [ht] at hr
      dsimp only at hr
      intro σ3 z3 ok3
      have hz : L2.wipe (L2.wipe σ vs) vs = L2.wipe σ vs := by
        apply List.ext_getElem?
        intro k
        rw [wipe_get, wipe_get]
        split
        · cases σ[k]? <;> rfl
        · rfl
      have keepN : ∀ S4 H4, Fwd S' H' S4 H4 → S4 Dl = none := fun S4 H4 f4 => by
        cases q : S4 Dl with
        | none => rfl
        | some u => obtain ⟨_, z⟩ := (f4.new Dl u q n1).not h1; cases z
      refine ⟨z3.trans hz, S0, H0, S2, r2, ok3, ?_⟩
      cases htt : tt r2 with
      | err _ _ _ => rw [htt] at hr; exact hr.elim
      | bad => rw [htt] at hr; exact hr.elim
      | ok b =>
        rw [htt] at hr
        intro S4 H4 w4 b' hb
        cases hb
        have f4 := fw2.trans w4
        cases b with
        | false =>
          dsimp only at hr
          rw [if_neg (by decide)]
          exact ⟨S4, acc, accD, fw.trans f4, keepN S4 H4 f4, f4.h _ _ h1, r1.mono f4.s, hr, Nat.le_succ_of_le hn⟩
        | true =>
          dsimp only at hr
          rw [if_pos rfl]
          refine ⟨S0, H0, S4, r2, envB (ok3.go w4), ?_⟩
          cases hfe : fe r2 with
          | err n ns us =>
            rw [hfe] at hr
            exact fun C dd S' H' fs h1 w h2 h3 h4 => hr C dd S' H' fs h1 ((fw.trans f4).trans w) h2 h3 h4
          | bad => rw [hfe] at hr; exact hr.elim
          | ok x2 =>
            rw [hfe] at hr
            intro S5 H5 w5 y5 hy5
            have f5 := f4.trans w5
            refine ⟨acc, f5.h _ _ h1, ?_, S5, acc ++ [y5], accD ++ [x2], (fw.trans f5).put hD (keepN S5 H5 f5), keepN S5 H5 f5, upd_same, (r1.mono f5.s).app (.one hy5), ?_, ?_⟩
            · rw [r1.length]; omega
            · cases hlc : lcLoopE t tt fe (wipeR r vs) (ds.drop (i + 1)) with
              | err n ns us =>
                have hr : PostG c σ S1 H1 (((lcLoopE t tt fe (wipeR r vs) (ds.drop (i + 1))).bind fun xs => .ok (x2 :: xs)).bind fun xs => .ok (D.lst (accD ++ xs))) _ := hr
                rw [hlc] at hr
                exact hr
              | bad =>
                have hr : PostG c σ S1 H1 (((lcLoopE t tt fe (wipeR r vs) (ds.drop (i + 1))).bind fun xs => .ok (x2 :: xs)).bind fun xs => .ok (D.lst (accD ++ xs))) _ := hr
                rw [hlc] at hr
                exact hr
              | ok xs2 =>
                have hr : PostG c σ S1 H1 (((lcLoopE t tt fe (wipeR r vs) (ds.drop (i + 1))).bind fun xs => .ok (x2 :: xs)).bind fun xs => .ok (D.lst (accD ++ xs))) _ := hr
                rw [hlc] at hr
                show PostG c σ S1 H1 (.ok (D.lst (accD ++ [x2] ++ xs2))) _
                rw [List.append_assoc]
                exact hr
            · simp; omega
  · rintro H' ⟨S', acc, accD, fw, n1, h1, r1, hr, hn⟩
    rw [List.drop_length] at hr
    have hr : PostG c σ S1 H1 (.ok (D.lst (accD ++ []))) _ := hr
    rw [List.append_nil] at hr
    exact hr S' H' fw _ ⟨Dl, .lst acc, rfl, w1.h.nn hD, n1, h1, .lst r1⟩
end
section
variable {X : Cx} {c : Cf} {L G G' : List Ow} {k : Nat} {f : Addr} {fd : FuncData} {ps : List Str} {x : Str} {p pos : Pos} {e : Expr} {es : List Expr} {fs : Rho → Res (List D)} {ms : List Bool} {rm : Bool} {F : List D → Res D}
/-- [elt for .. in ..], where elt may raise -/
theorem de_lcE {elt tg iter : Expr} {ifs : List Expr} {scope : Scope} {own : List (Str × Nat)} {its : Rho → Res (List D)} {t : D → Rho → Res Rho} {tt : Rho → Res Bool} {fe : Rho → Res D} (tk : Takes X c.W) (hc : X.calm = true) (hN : X.N.Nodup) (hi : PI X tg iter (iD c G its)) (ok : BlkOk X.N X.env.scope scope own)
    (hg : ∀ (s : Shared) (H : Hp) (C : Addr) (cl : List (Str × Addr)) (fp : List Addr), PG (blkE X s H scope (compEnvC scope cl C X.env) fp) tg (gD c.calm G G' (own.map (·.2)) t)) (ht : ∀ (s : Shared) (H : Hp) (C : Addr) (cl : List (Str × Addr)) (fp : List Addr), PTs (blkE X s H scope (compEnvC scope cl C X.env) fp) ifs (tT c.calm G' tt))
    (he : ∀ (σ : St) (s : Shared) (H : Hp) (C : Addr) (cl : List (Str × Addr)) (fp : List Addr), Passes (L2.CX X.prog X.w) (blkE X s H scope (compEnvC scope cl C X.env) fp) (fun cls d H1 => c.W cls d σ H1) → PE (blkE X s H scope (compEnvC scope cl C X.env) fp) elt (tV (cB c σ) G' fe))
    (hst : X.stack = X.env :: X.outer := by rfl) (hfr : X.env.frame = some X.env.locals := by rfl) (hs : ∀ x, foldedSetIterable iter X.env x = pure x := by intro _; rfl) :
    PE X (.ListComp elt [⟨tg, iter, ifs, 0⟩] scope pos) (tO c G (dLcE its t tt fe (own.map (·.2)))) := by
  refine ⟨fun pins s σ H Q I h => ?_⟩
  rw [eval_ListComp]
  refine lc_coreE tk hst hfr hc hN I (pi_l hi) ok hg ht (fun s H C cl fp hp => he σ s H C cl fp (hp _ fun _ _ _ z => z)) hs (lc_rdE σ H Q h) fun D C s' m H' I' q hn f => ⟨m, hn, fun h'' sb => ?_⟩
  obtain ⟨f0, f1, f2, f3, f4, f5⟩ := f
  exact ⟨.ref D, H', I'.turned (t' := s'.toks) (fun b o hb e => (sb.2 b hb).trans e) f0 f1 f3 f4 f5, rfl, q⟩
/-- f(e, ..) within such a block -/
theorem de_callB {W : XK} (F1 : FnOk X.prog X.w X.K X.mg X.base (L2.CX X.prog X.w) k f fd ps (spD c.K c.cm ms rm F)) (hW : c.W = fun cls d _ H => W cls d H) (hx : Passes (L2.CX X.prog X.w) X W) (hr : Room k X.A) (hg : Gl X x) (hm : X.mg x = some (.ref f)) (hk : PySem.W.keepIn X.K (.ref f) = true) (hb : Binds X.K fd ps [])
    (ha : PA X (e :: es) (tM c G ms fs)) (hdb : (x == ("__debug__" : Str)) = false := by decide) (he : starEach (e :: es) X.env = (false, eval e X.env) :: starEach es X.env := by rfl) (hpl : (backTo pos (starEach es X.env)).any (·.1) = false := by rfl) :
    PE X (.Call (.Name x p) (e :: es) [] pos) (rd c G (dCall F fs) (mR c rm)) :=
  pe_imp (pe_callSD (E := fun _ cls d H => W cls d H) F1 hr hg hm hk hb .nil (fun σ pins H s e s' I c => hx pins σ H s e s' I c) ha hdb he hpl) fun σ H Q ⟨S0, H0, S, r, ok, q⟩ => rd_seq ok q fun ds vs S1 H1 w1 o1 m1 p1 => by
    rw [List.append_nil]
    exact call_rd (fun _ _ _ h => by rw [hW] at h; exact h) o1.ex m1 (p1.anti w1.h)
theorem de_callBV {W : XK} (F1 : FnOk X.prog X.w X.K X.mg X.base (L2.CX X.prog X.w) k f fd ps (spD c.K c.cm ms false F)) (hW : c.W = fun cls d _ H => W cls d H) (hx : Passes (L2.CX X.prog X.w) X W) (hr : Room k X.A) (hg : Gl X x) (hm : X.mg x = some (.ref f)) (hk : PySem.W.keepIn X.K (.ref f) = true) (hb : Binds X.K fd ps [])
    (ha : PA X (e :: es) (tM c G ms fs)) (hdb : (x == ("__debug__" : Str)) = false := by decide) (he : starEach (e :: es) X.env = (false, eval e X.env) :: starEach es X.env := by rfl) (hpl : (backTo pos (starEach es X.env)).any (·.1) = false := by rfl) :
    PE X (.Call (.Name x p) (e :: es) [] pos) (tV c G (dCall F fs)) := de_callB F1 hW hx hr hg hm hk hb ha hdb he hpl
end
section
variable {α : Type} {tg : D → Rho → Res Rho} {tt : Rho → Res Bool} {fe : Rho → Res D} {rw : Rho}
theorem lcE_all (c g : α → D) : ∀ xs : List α, (∀ x ∈ xs, ∃ r1, tg (c x) rw = .ok r1 ∧ tt r1 = .ok true ∧ fe r1 = .ok (g x)) → lcLoopE tg tt fe rw (xs.map c) = .ok (xs.map g)
  | [], _ => rfl
  | x :: xs, h => by
    obtain ⟨r1, h1, h2, h3⟩ := h x (by simp)
    have ih := lcE_all c g xs fun y hy => h y (by simp [hy])
    show lcLoopE tg tt fe rw (c x :: xs.map c) = _
    unfold lcLoopE
    rw [h1]
    dsimp only
    rw [h2]
    dsimp only
    rw [h3, ih]
    rfl
theorem lcE_bad (c g : α → D) {n : Str} {ns : List Str} {vs : List D} (post : List α) (x : α) (hx : ∃ r1, tg (c x) rw = .ok r1 ∧ tt r1 = .ok true ∧ fe r1 = .err n ns vs) : ∀ pre : List α, (∀ x ∈ pre, ∃ r1, tg (c x) rw = .ok r1 ∧ tt r1 = .ok true ∧ fe r1 = .ok (g x)) →
    lcLoopE tg tt fe rw ((pre ++ x :: post).map c) = .err n ns vs
  | [], _ => by
    obtain ⟨r1, h1, h2, h3⟩ := hx
    show lcLoopE tg tt fe rw (c x :: post.map c) = _
    unfold lcLoopE
    rw [h1]
    dsimp only
    rw [h2]
    dsimp only
    rw [h3]
    rfl
  | y :: pre, h => by
    obtain ⟨r1, h1, h2, h3⟩ := h y (by simp)
    have ih := lcE_bad c g post x hx pre fun z hz => h z (by simp [hz])
    show lcLoopE tg tt fe rw (c y :: (pre ++ x :: post).map c) = _
    unfold lcLoopE
    rw [h1]
    dsimp only
    rw [h2]
    dsimp only
    rw [h3, ih]
    rfl
end
end Dx
end S_DxAW
section S_DxAX
set_option Elab.async false
set_option linter.all false
set_option maxRecDepth 100000
set_option maxHeartbeats 2000000
namespace Dx
open PySem L2 PySem.Spec
open PyProof.Rows hiding St passOn frameOf
def wManyA (K : PySem.W.Frag) (Wout : WX) (D : Ends) : List (Value × Nat × (Addr → Value → Option Addr → TS)) → WX
  | [] => Wout
  | (c, i, ts) :: r => wAs K c i ts (wManyA K Wout D r) D
inductive HdsA (X : Cx) : List ExceptHandler → List (Value × Nat × (Addr → Value → Option Addr → TS)) → Prop
  | nil : HdsA X [] []
  | cons {x n : Str} {c : Value} {i : Nat} {ts : Addr → Value → Option Addr → TS} {b₀ : Stmt} {suite : List Stmt} {np pos' : Pos} {hds : List ExceptHandler} {l : List (Value × Nat × (Addr → Value → Option Addr → TS))} (hc : Names X x c)
      (hi : X.N[i]? = some n) (hln : X.env.kindOf n = some .local)
      (hsu : ∀ (a : Addr) (oe : Obj) (cls : Value) (d : Option Addr) (pn : List (Addr × Obj)), Zc cls d oe → (∃ vs, oe.data = .fields vs) → PSs (X.suite a ((a, oe) :: pn)) (b₀ :: suite) (ts a cls d)) (r : HdsA X hds l) :
      HdsA X (.ExceptHandler (some (.Name x np)) (some n) (b₀ :: suite) pos' :: hds) ((c, i, ts) :: l)
section
variable {X : Cx} {body : List Stmt} {h₀ : ExceptHandler} {hds : List ExceptHandler} {l : List (Value × Nat × (Addr → Value → Option Addr → TS))} {pos : Pos} {tb : WX → TS} {Wout : WX}
theorem ps_try_manyA (hs : X.stack = X.env :: X.outer) (hf : X.env.frame = some X.env.locals) (hN : X.N.Nodup) (tk : Takes X Wout)
    (hb : ∀ (W : WX) (pn : List (Addr × Obj)) (xe : Value → Shared → Prop), Takes (X.tr pn xe) W → PassesOwn (model X.prog X.w) X.A X.env xe → PSs (X.tr pn xe) body (tb W))
    (hh : HdsA X (h₀ :: hds) l) : PS X (.Try body (h₀ :: hds) [] [] pos) (fun D σ H => tb (wManyA X.K Wout D l) D σ H) := by
  refine ⟨fun pins s σ H D I h => ?_⟩
  have ok := I.ok
  have hfr : X.A.frames = some (X.env :: X.outer) := by rw [ok.frames, hs]
  refine wpAny_Try_except ?_
  refine wpAny_mono ((hb (wManyA X.K Wout D l) (X.pn ++ pins) (fun e s₁ => wpAny (model X.prog X.w) X.A (noteFrame e X.env) (fun _ s₂ => wpAny (model X.prog X.w) X.A (setFlight e none) (fun _ s₃ =>
    wpAny (model X.prog X.w) X.A (handleBy e X.env (h₀ :: hds)) (SP X pins D) X.xe s₃) X.xe s₂) X.xe s₁) (fun u s' xx => ?_) PassesOwn.looking).run [] s σ H D (I.toTry _) h) (fun f s1 hsp => ?_) (fun e s1 he => he)
  · -- the catch
    obtain ⟨a, B, sI, pins', σ', H', cls, d, rfl, J', nb, up, sky, na, os, ag, w⟩ := xx
    have J : Inv X pins σ' H' sI := J'.ofTry ok
    have sky' : Sky B (X.env :: X.outer) a (Zc cls d) X.env.locals s'.heap := by rw [← hs]; exact sky
    show wpAny (model X.prog X.w) X.A (noteFrame (.ref a) X.env) _ _ _
    refine Sky.land Zc.steady hfr hf sky' fun h3 fl3 up3 => ?_
    have J3 : Inv X pins σ' H' { s' with heap := h3 } := J.landed nb fl3.1 (up.trans up3) os ag
    obtain ⟨oe3, vs3, he3, hz3, hd3⟩ := fl3.there
    have notFr : ∀ {h : Heap} {o : Obj} {vs : Array Value}, h.FunFrames B (X.env :: X.outer) → h.get? a = some o → o.data = .fields vs → a ∉ frs (X.env :: X.outer) := fun {h o vs} ff e dd hm => by
      obtain ⟨_, o', e', hnf⟩ := ff.mem hm
      rw [e] at e'; cases e'
      exact hnf _ dd
    have nfr := notFr fl3.2.2.1 he3 hd3
    have nL : a ≠ X.env.locals := fun z => nfr (List.mem_filterMap.mpr ⟨X.env, List.mem_cons_self, by rw [hf, z]⟩)
    have nF : a ∉ X.fs := fun hm => by
      obtain ⟨e, he, q⟩ := List.mem_filterMap.mp hm
      exact nfr (List.mem_filterMap.mpr ⟨e, List.mem_cons_of_mem _ he, q⟩)
    have S3 := J3.suite he3 hd3 na nL nF
    have go : ∀ {hds' : List ExceptHandler} {l' : List (Value × Nat × (Addr → Value → Option Addr → TS))}, HdsA X hds' l' → wManyA X.K Wout D l' cls d σ' H' →
        wpAny (model X.prog X.w) X.A (handleBy (.ref a) X.env hds') (SP X pins D) X.xe { s' with heap := h3 } := by
      intro hds' l' hk
      induction hk with
      | nil =>
        intro w
        refine wpAny_handleBy_nil ?_
        obtain ⟨k1, k2, k3, oe, vs, T, oT, ts', he, hz, hd, h1, hr⟩ := id fl3
        unfold PySem.passOn
        refine wpAny_bind (wpAny_field he hd h1 ?_)
        rw [if_neg (show ¬ ((Value.ref T == Value.none) = true) from by simp)]
        have fin : wpAny (model X.prog X.w) X.A (setFlight (.ref a) X.env.frame) (fun _ s4 => wpAny (model X.prog X.w) X.A (throw (.ref a) : Sem Flow) (SP X pins D) X.xe s4) X.xe { s' with heap := h3 } := by
          rw [hf]
          refine HandSPX.setFlight_upZ fl3 fun h4 hh4 up4 => wpAny_throw (tk _ _ ?_)
          exact ⟨a, B, sI, pins, σ', H', cls, d, rfl, J, nb, (up.trans up3).trans up4, .inr (.inr (by rw [hs]; exact hh4)), na, os, ag, w⟩
        first
          | exact wpAny_bind (wpAny_pure (wpAny_bind fin))
          | exact wpAny_bind fin
      | @cons x n c i ts b₀ suite np pos' hds2 l2 hc hi hln hsu r ih =>
        intro w
        obtain ⟨b, hb1, hyes, hno⟩ := w
        refine wpAny_handleBy_cons (codeAny_handlers_test ?_) (by intro q; cases q)
        have LT : PySem.W.Looks (model X.prog X.w) h3 (typeOf (.ref a)) cls := fun A Q E s k q => wpAny_typeOf_ref (k _ _ he3) (by rw [hz3.1]; exact q)
        have LM := PySem.W.exm_one (M := model X.prog X.w) (J3.kIn) LT hb1
        have test : ∀ {Q : Value → Shared → Prop} {E : Value → Shared → Prop}, Q c { s' with heap := h3 } → wpAny (model X.prog X.w) (X.A.mark (some (.ref a))) (eval (.Name x np) X.env) Q E { s' with heap := h3 } := fun {Q E} q => by
          obtain ⟨hg, hdbg, hm | ⟨hm, hv, hnn⟩⟩ := hc
          · exact ld_glob (X := X.suite a ((a, oe3) :: (X.pn ++ pins))) S3 hg hm q hdbg
          · exact ld_blt (X := X.suite a ((a, oe3) :: (X.pn ++ pins))) S3 hg hm hv q hnn hdbg
        refine test (LM.here ?_)
        cases b with
        | true =>
          refine codeAny_handlers_suite_as ?_
          refine HandSPX.lands_againZ fl3 fun h4 fl4 up4 => ?_
          have J4 : Inv X pins σ' H' { s' with heap := h4 } := J.landed nb fl4.1 ((up.trans up3).trans up4) os ag
          obtain ⟨oe4, vs4, he4, hz4, hd4⟩ := fl4.there
          have S4 := J4.suite he4 hd4 na nL nF
          refine store_ok (X := X.suite a ((a, oe4) :: (X.pn ++ pins))) (v := .ref a) S4 hN hi (.inl hln) rfl (fun s5 S5 => ?_) (.inr hln)
          refine wpAny_mono ((hsu a oe4 cls d (X.pn ++ pins) hz4 ⟨_, hd4⟩).run [] s5 _ H' _ S5 (hyes rfl a na)) (fun f s6 hsp => ?_) (fun _ _ z => False.elim z)
          have end_ : ∀ {σ6 : St} {H6 : Hp} {Q : Shared → Prop}, Inv (X.suite a ((a, oe4) :: (X.pn ++ pins))) [] σ6 H6 s6 → (∀ s7, Inv X pins (σ6.set i none) H6 s7 → Q s7) →
              wpAny (model X.prog X.w) X.A (do bindName X.env n .none; unbindBehindTheSuite X.env n pos') (fun _ s7 => Q s7) X.xe s6 := fun {σ6 H6 Q} S6 hq => gone_ok (S6.unsuite ok) hN hi hln hq
          cases f with
          | next =>
            obtain ⟨σ6, H6, S6, q6⟩ := hsp
            exact end_ S6 fun s7 J7 => ⟨_, _, J7, q6⟩
          | brk =>
            obtain ⟨σ6, H6, S6, q6⟩ := hsp
            exact end_ S6 fun s7 J7 => ⟨_, _, J7, q6⟩
          | cont =>
            obtain ⟨σ6, H6, S6, q6⟩ := hsp
            exact end_ S6 fun s7 J7 => ⟨_, _, J7, q6⟩
          | ret u =>
            obtain ⟨v6, σ6, H6, S6, r6, q6⟩ := hsp
            exact end_ S6 fun s7 J7 => ⟨_, _, _, J7, r6, q6⟩
        | false =>
          show wpAny _ X.A (handleBy (.ref a) X.env hds2) _ _ _
          exact ih (hno rfl)
    exact go hh w
  · cases f with
    | next =>
      obtain ⟨σ', H', J', q⟩ := hsp
      exact wpAny_execs_nil ⟨σ', H', J'.ofTry ok, q⟩
    | brk =>
      obtain ⟨σ', H', J', q⟩ := hsp
      exact ⟨σ', H', J'.ofTry ok, q⟩
    | cont =>
      obtain ⟨σ', H', J', q⟩ := hsp
      exact ⟨σ', H', J'.ofTry ok, q⟩
    | ret u =>
      obtain ⟨v, σ', H', J', r, q⟩ := hsp
      exact ⟨v, σ', H', J'.ofTry ok, r, q⟩
end
def try2F (isM : Str → Option Bool) (i : Nat) (Fs : Rho → SR) (isM2 : Str → Option Bool) (j : Nat) (Fs2 : Rho → SR) (Fb : Rho → SR) : Rho → SR := fun r => match Fb r with
  | .er r' n ns vs => match isM n with
    | some true => unsetS i (Fs (r'.set i (some (.obj n ns vs))))
    | some false => match isM2 n with
      | some true => unsetS j (Fs2 (r'.set j (some (.obj n ns vs))))
      | some false => .er r' n ns vs
      | none => .bad
    | none => .bad
  | o => o
section
variable {X : Cx} {c : Cf} {L G G' : List Ow} {pos : Pos}
theorem suite_rd {S0 H0 S' H' : Hp} {σ' : St} {r' : Rho} {n : Str} {ns : List Str} {vs : List D} {fs : List (Str × V)} {a C dd : Addr} {i : Nat} {Fs : Rho → SR} {Gs : List Ow} {E : Ends} (e1 : EnvOk c S0 H0 G S' H' σ' r') (hG : i < G.length) (h1 : c.cm n = some C) (h3 : S' dd = some (.xd fs)) (h4 : ns = fs.map (·.1)) (h5 : RpA c.K c.cm S' (fs.map (·.2)) vs)
    (hGs : Gs.set i .v = G') (hL : L.set i .v = L) (p : PostS c S0 H0 L G' (unsetS i (Fs (r'.set i (some (.obj n ns vs))))) E) :
    sD c.calm (L.set i (.x a C dd)) (G.set i (.x a C dd)) (Gs.set i (.x a C dd)) Fs { nx := fun σ' H' => E.nx (σ'.set i none) H', rt := E.rt, bk := fun σ' H' => E.bk (σ'.set i none) H', ct := fun σ' H' => E.ct (σ'.set i none) H' } (σ'.set i (some (.ref a))) H' := by
  refine ⟨S0, H0, S', _, e1.setX (c' := c.calm) (a := a) rfl rfl i hG h1 h3 h4 h5, ?_⟩
  cases hS : Fs (r'.set i (some (.obj n ns vs))) with
  | nx r2 =>
    rw [hS] at p
    intro σ2 S2 H2 e2
    have := (EnvOk.cf (c' := c) e2 rfl rfl).unset i
    rw [List.set_set, hGs] at this
    exact p _ S2 H2 this
  | rt d => rw [hS] at p; exact p
  | bk r2 =>
    rw [hS] at p
    intro σ2 S2 H2 e2
    have := (EnvOk.cf (c' := c) e2 rfl rfl).unset i
    rw [List.set_set, hL] at this
    exact p _ S2 H2 this
  | ct r2 =>
    rw [hS] at p
    intro σ2 S2 H2 e2
    have := (EnvOk.cf (c' := c) e2 rfl rfl).unset i
    rw [List.set_set, hL] at this
    exact p _ S2 H2 this
  | er _ _ _ _ => rw [hS] at p; exact p.elim
  | bad => rw [hS] at p; exact p.elim
theorem ds_try2 {nm xn nm2 xn2 : Str} {cv cv2 : Value} {i j : Nat} {body suite suite2 : List Stmt} {b0 b02 : Stmt} {np p1 np2 p2 : Pos} {isM isM2 : Str → Option Bool} {Fb Fs Fs2 : Rho → SR} {Gs Gs2 : List Ow} (hge : Gok c G) (hs : X.stack = X.env :: X.outer) (hf : X.env.frame = some X.env.locals) (hN : X.N.Nodup)
    (hi : X.N[i]? = some nm) (hln : X.env.kindOf nm = some .local) (hc : Names X xn cv) (hj : X.N[j]? = some nm2) (hln2 : X.env.kindOf nm2 = some .local) (hc2 : Names X xn2 cv2) (tk : Takes X c.W)
    (hG : i < G.length) (hG2 : j < G.length) (hM : ∀ n C b, c.cm n = some C → isM n = some b → PySem.W.exmOne X.K (.ref C) cv = some b) (hM2 : ∀ n C b, c.cm n = some C → isM2 n = some b → PySem.W.exmOne X.K (.ref C) cv2 = some b)
    (hb : ∀ (W : WX) (pn : List (Addr × Obj)) (xe : Value → Shared → Prop), Takes (X.tr pn xe) W → PassesOwn (model X.prog X.w) X.A X.env xe → PSs (X.tr pn xe) body (sD (c.try W G) L G G' Fb))
    (hsu : ∀ (a C dd : Addr) (oe : Obj) (pn : List (Addr × Obj)), (∃ n, c.cm n = some C ∧ isM n = some true) → Zc (.ref C) (some dd) oe → (∃ vs, oe.data = .fields vs) → PSs (X.suite a ((a, oe) :: pn)) (b0 :: suite) (sD c.calm (L.set i (.x a C dd)) (G.set i (.x a C dd)) (Gs.set i (.x a C dd)) Fs))
    (hsu2 : ∀ (a C dd : Addr) (oe : Obj) (pn : List (Addr × Obj)), (∃ n, c.cm n = some C ∧ isM2 n = some true) → Zc (.ref C) (some dd) oe → (∃ vs, oe.data = .fields vs) → PSs (X.suite a ((a, oe) :: pn)) (b02 :: suite2) (sD c.calm (L.set j (.x a C dd)) (G.set j (.x a C dd)) (Gs2.set j (.x a C dd)) Fs2))
    (hGs : Gs.set i .v = G') (hL : L.set i .v = L) (hGs2 : Gs2.set j .v = G') (hL2 : L.set j .v = L) :
    PS X (.Try body [.ExceptHandler (some (.Name xn np)) (some nm) (b0 :: suite) p1, .ExceptHandler (some (.Name xn2 np2)) (some nm2) (b02 :: suite2) p2] [] [] pos) (sD c L G G' (try2F isM i Fs isM2 j Fs2 Fb)) := by
  refine ps_imp (ps_try_manyA (tb := fun W => sD (c.try W G) L G G' Fb) hs hf hN tk hb
    (.cons (ts := fun a cls d => fun E σ H => ∃ C dd, cls = .ref C ∧ d = some dd ∧ (∃ n, c.cm n = some C ∧ isM n = some true) ∧ sD c.calm (L.set i (.x a C dd)) (G.set i (.x a C dd)) (Gs.set i (.x a C dd)) Fs E σ H) hc hi hln ?_
      (.cons (ts := fun a cls d => fun E σ H => ∃ C dd, cls = .ref C ∧ d = some dd ∧ (∃ n, c.cm n = some C ∧ isM2 n = some true) ∧ sD c.calm (L.set j (.x a C dd)) (G.set j (.x a C dd)) (Gs2.set j (.x a C dd)) Fs2 E σ H) hc2 hj hln2 ?_ .nil))) ?_
  · intro a oe cls d pn hz hff
    refine ⟨fun pins s σ H E I ⟨C, dd, hC, hd, hin, q⟩ => ?_⟩
    subst hC hd
    exact (hsu a C dd oe pn hin hz hff).run pins s σ H E I q
  · intro a oe cls d pn hz hff
    refine ⟨fun pins s σ H E I ⟨C, dd, hC, hd, hin, q⟩ => ?_⟩
    subst hC hd
    exact (hsu2 a C dd oe pn hin hz hff).run pins s σ H E I q
  · rintro E σ H ⟨S0, H0, S, r, ok, p⟩
    refine ⟨S0, H0, S, r, ok.cf rfl rfl, ?_⟩
    unfold try2F at p
    cases hF : Fb r with
    | nx r' => rw [hF] at p; exact fun σ' S' H' e => p σ' S' H' (e.cf rfl rfl)
    | rt d => rw [hF] at p; exact p
    | bk r' => rw [hF] at p; exact fun σ' S' H' e => p σ' S' H' (e.cf rfl rfl)
    | ct r' => rw [hF] at p; exact fun σ' S' H' e => p σ' S' H' (e.cf rfl rfl)
    | bad => rw [hF] at p; exact p.elim
    | er r' n ns vs =>
      rw [hF] at p
      intro C dd σ' S' H' fs h1 fw h2 h3 h4 h5
      have e1 : EnvOk (c.try _ G) S0 H0 G S' H' σ' r' := h2 G rfl
      have e1c : EnvOk c S0 H0 G S' H' σ' r' := EnvOk.cf (c' := c) e1 rfl rfl
      dsimp only at p
      cases hI : isM n with
      | none => rw [hI] at p; exact p.elim
      | some b =>
        rw [hI] at p
        refine ⟨b, hM n C b h1 hI, fun hb1 a ha => ?_, fun hb0 => ?_⟩
        · subst hb1
          exact ⟨C, dd, rfl, rfl, ⟨n, h1, hI⟩, suite_rd e1c hG h1 h3 h4 h5 hGs hL p⟩
        · subst hb0
          dsimp only at p
          cases hI2 : isM2 n with
          | none => rw [hI2] at p; exact p.elim
          | some b2 =>
            rw [hI2] at p
            refine ⟨b2, hM2 n C b2 h1 hI2, fun hb1 a ha => ?_, fun hb0 => ?_⟩
            · subst hb1
              exact ⟨C, dd, rfl, rfl, ⟨n, h1, hI2⟩, suite_rd e1c hG2 h1 h3 h4 h5 hGs2 hL2 p⟩
            · subst hb0
              exact p C dd σ' S' H' fs h1 fw (fun g hg => by rw [hge g hg]; exact e1c) h3 h4 h5
end
end Dx
end S_DxAX
section S_P_data
set_option Elab.async false
set_option linter.all false
set_option maxRecDepth 100000
namespace Lk
open PySem L2 Dx
noncomputable section
def isM_BadJoint : Str → Option Bool := fun n => if n = "BadJoint" then some true else if n = "TooLarge" then some false else none
def isM_LaidError : Str → Option Bool := fun n => if n = "BadJoint" then some true else if n = "TooLarge" then some true else none
def isM_TooLarge : Str → Option Bool := fun n => if n = "BadJoint" then some false else if n = "TooLarge" then some true else none
def isM_ValueError : Str → Option Bool := fun n => if n = "BadJoint" then some true else if n = "TooLarge" then some true else none
def Lp_is_part_1 : Rho → SR := (ifF (dAnd (dT (dOp ninD (dVar 3) (dC (.str (Sg [97, 98, 99, 100, 101, 102, 103, 104, 105, 106, 107, 108, 109, 110, 111, 112, 113, 114, 115, 116, 117, 118, 119, 120, 121, 122]))))) (dAnd (dT (dOp neD (dVar 3) (dC (.str (Sg [63]))))) (dOr (dT (dOp neD (dVar 3) (dC (.str (Sg [46]))))) (dT (dOp neD (dVar 2) (dVar 1)))))) (retF (dC (.bl false))) .nx)
def Fb_is_part : Rho → SR := (seqF (ifF (dT (dOp gtD (dCall (g1 lenD) (dCons (dVar 0) dNil)) (dC (.int 3)))) (retF (dC (.bl false))) .nx) (seqF (forF (dIt enumS (dVar 0)) (tgT 2 (tgCons (tgN 2) (tgCons (tgN 3) tgNil))) Lp_is_part_1) (retF (dC (.bl true)))))
def F_is_part : List D → Res D := runF 4 false Fb_is_part
def Fb_read_joint : Rho → SR := (seqF (setF 1 (dVar 0)) (seqF (setF 2 (dStr endD (dVar 0) (dC (.str (Sg [32, 110, 111]))))) (seqF (ifF (dTru (dVar 2)) (setF 1 (dSl slD (dVar 0) dNoP (dPart (dUn negD (dC (.int 3)))))) .nx) (seqF (match2F 3 4 (dStr splitD (dVar 1) (dC (.str (Sg [45])))) (ifF (dAnd (dT (dCall F_is_part (dCons (dVar 3) (dCons (dC (.int 0)) dNil)))) (dT (dCall F_is_part (dCons (dVar 4) (dCons (dOp subD (dCall (g1 lenD) (dCons (dVar 4) dNil)) (dC (.int 1))) dNil))))) (retF (dTup (dCons (dVar 3) (dCons (dVar 4) (dCons (dVar 2) dNil))))) .nx)) (raiF "BadJoint" ["text"] false (dCons (dVar 0) dNil))))))
def F_read_joint : List D → Res D := runF 5 false Fb_read_joint
def Fb_Joints_init : Rho → SR := (seqF (ifF (dT (dOp gtD (dCall (g1 lenD) (dCons (dVar 1) dNil)) (dC (.int 8)))) (raiF "TooLarge" ["many"] false (dCons (dCall (g1 lenD) (dCons (dVar 1) dNil)) dNil)) .nx) (seqF (fstF 0 "Joints" "readings" (dLcE (dIt itemsL (dVar 1)) (tgN 2) dYes (dCall F_read_joint (dCons (dVar 2) dNil)) [2])) (fstF 0 "Joints" "lines" (dCall (g1 listD) (dCons (dVar 1) dNil)))))
def F_Joints_init : List D → Res D := runI 3 "Joints" Fb_Joints_init
def Fb_Joints_len : Rho → SR := (retF (dCall (g1 lenD) (dCons (dUn (fldD "Joints" "lines") (dVar 0)) dNil)))
def F_Joints_len : List D → Res D := runF 1 false Fb_Joints_len
def Fb_l_cell : Rho → SR := (seqF (ifF (dT (dOp ltD (dVar 1) (dCall (g1 lenD) (dCons (dVar 0) dNil)))) (retF (dCall (g1 intD) (dCons (dOp ixD (dVar 0) (dVar 1)) dNil))) .nx) (retF (dC (.int 0))))
def F_l_cell : List D → Res D := runF 2 false Fb_l_cell
def Lp_l_row_1 : Rho → SR := (seqF (appF 2 (dOp modD (dCall (g1 intD) (dCons (dVar 3) dNil)) (dVar 4))) (setF 3 (dOp fdivD (dVar 3) (dVar 4))))
def Lp_l_row_2 : Rho → SR := (seqF (setF 6 (dOp modD (dCall (g1 intD) (dCons (dOp addD (dOp addD (dOp mulX (dVar 0) (dC (.int 48271))) (dOp mulX (dVar 5) (dC (.int 69621)))) (dC (.int 11))) dNil)) (dC (.int 2147483647)))) (seqF (setF 6 (dOp modD (dCall (g1 intD) (dCons (dOp addD (dOp addD (dOp mulX (dVar 6) (dOp addD (dC (.int 16807)) (dOp mulX (dC (.int 2)) (dVar 5)))) (dOp mulX (dOp mulX (dVar 5) (dVar 5)) (dC (.int 40692)))) (dC (.int 7))) dNil)) (dC (.int 2147483399)))) (appF 2 (dOp modD (dCall (g1 intD) (dCons (dOp fdivD (dVar 6) (dC (.int 31))) dNil)) (dOp ixD (dVar 1) (dVar 5))))))
def Fb_l_row : Rho → SR := (seqF (setF 2 (dLst dNil)) (seqF (ifF (dT (dOp geD (dVar 0) (dC (.int 1000000000000000000)))) (seqF (setF 3 (dOp subD (dVar 0) (dC (.int 1000000000000000000)))) (seqF (forF (dIt itemsL (dVar 1)) (tgN 4) Lp_l_row_1) (retF (dVar 2)))) .nx) (seqF (forF (dIts rng1 (dCons (dCall (g1 lenD) (dCons (dVar 1) dNil)) dNil)) (tgN 5) Lp_l_row_2) (retF (dVar 2)))))
def F_l_row : List D → Res D := runF 7 false Fb_l_row
def Lp_l_same_1 (Fself : List D → Res D) : Rho → SR := (ifF (dNot (dT (dCall Fself (dCons (dOp ixD (dVar 0) (dVar 2)) (dCons (dOp ixD (dVar 1) (dVar 2)) dNil))))) (retF (dC (.bl false))) .nx)
def Fb_l_same (Fself : List D → Res D) : Rho → SR := (seqF (ifF (dT (dOp (isD false) (dVar 1) (dC .non))) (retF (dOp (isD false) (dVar 0) (dC .non))) .nx) (seqF (ifF (dT (dUn (isiD "bool") (dVar 1))) (retF (dAndV (dUn (isiD "bool") (dVar 0)) (dOp eqD (dVar 0) (dVar 1)))) .nx) (seqF (ifF (dT (dUn (isiD "int") (dVar 1))) (retF (dAndV (dUn (isiD "int") (dVar 0)) (dAndV (dNotV (dUn (isiD "bool") (dVar 0))) (dOp eqD (dVar 0) (dVar 1))))) .nx) (seqF (ifF (dT (dUn (isiD "str") (dVar 1))) (retF (dAndV (dUn (isiD "str") (dVar 0)) (dOp eqD (dVar 0) (dVar 1)))) .nx) (seqF (ifF (dAnd (dT (dUn (isiD "tuple") (dVar 1))) (dNot (dT (dUn (isiD "tuple") (dVar 0))))) (retF (dC (.bl false))) .nx) (seqF (ifF (dAnd (dT (dUn (isiD "list") (dVar 1))) (dNot (dT (dUn (isiD "list") (dVar 0))))) (retF (dC (.bl false))) .nx) (seqF (ifF (dOr (dT (dUn (isiD "tuple") (dVar 1))) (dT (dUn (isiD "list") (dVar 1)))) (seqF (ifF (dT (dOp neD (dCall (g1 lenD) (dCons (dVar 0) dNil)) (dCall (g1 lenD) (dCons (dVar 1) dNil)))) (retF (dC (.bl false))) .nx) (seqF (forF (dIts rng1 (dCons (dCall (g1 lenD) (dCons (dVar 1) dNil)) dNil)) (tgN 2) (Lp_l_same_1 Fself)) (retF (dC (.bl true))))) .nx) (retF (dC (.bl false))))))))))
def F_l_same : Nat → List D → Res D
  | 0 => fun _ => .bad
  | n + 1 => runF 3 false (Fb_l_same (F_l_same n))
def Lp_l_letters_1 : Rho → SR := (ifF (dT (dOp ninD (dVar 5) (dVar 4))) (setF 4 (dOp addD (dVar 4) (dVar 5))) .nx)
def Fb_l_letters : Rho → SR := (seqF (setF 1 (dCall F_l_row (dCons (dVar 0) (dCons (dLst (dCons (dC (.int 12)) (dCons (dC (.int 26)) (dCons (dC (.int 26)) (dCons (dC (.int 26)) dNil))))) dNil)))) (seqF (setF 2 (dC (.int 2))) (seqF (ifF (dT (dOp ltD (dOp ixD (dVar 1) (dC (.int 0))) (dC (.int 2)))) (setF 2 (dOp addD (dC (.int 1)) (dOp mulX (dC (.int 2)) (dOp ixD (dVar 1) (dC (.int 0)))))) .nx) (seqF (setF 3 (dC (.str (Sg [97, 98, 99, 100, 101, 102, 103, 104, 105, 106, 107, 108, 109, 110, 111, 112, 113, 114, 115, 116, 117, 118, 119, 120, 121, 122])))) (seqF (setF 4 (dC (.str (Sg [])))) (seqF (forF (dIt itemsL (dCall (g1 sortSD) (dCons (dLc (dIts rng1 (dCons (dVar 2) dNil)) (tgN 6) dYes (dOp ixD (dVar 3) (dOp ixD (dVar 1) (dOp addD (dC (.int 1)) (dVar 6)))) [6]) dNil))) (tgN 5) Lp_l_letters_1) (retF (dVar 4))))))))
def F_l_letters : List D → Res D := runF 7 false Fb_l_letters
def Fb_l_joint : Rho → SR := (seqF (setF 3 (dCall F_l_row (dCons (dVar 0) (dCons (dLst (dCons (dC (.int 4)) (dCons (dC (.int 4)) (dCons (dC (.int 7)) (dCons (dC (.int 7)) (dCons (dC (.int 7)) (dCons (dC (.int 7)) (dCons (dC (.int 7)) (dCons (dC (.int 7)) (dCons (dC (.int 4)) (dCons (dC (.int 4)) (dCons (dC (.int 3)) (dCons (dC (.int 26)) dNil))))))))))))) dNil)))) (seqF (setF 4 (dC (.str (Sg [97, 98, 99, 100, 101, 102, 103, 104, 105, 106, 107, 108, 109, 110, 111, 112, 113, 114, 115, 116, 117, 118, 119, 120, 121, 122])))) (seqF (setF 5 (dOp addD (dVar 1) (dVar 1))) (seqF (setF 5 (dOp addD (dOp addD (dSl slD (dOp addD (dVar 5) (dVar 5)) dNoP (dPart (dC (.int 4)))) (dC (.str (Sg [63, 63])))) (dOp ixD (dVar 4) (dOp ixD (dVar 3) (dC (.int 11)))))) (seqF (setF 6 (dStr joinD (dC (.str (Sg []))) (dLc (dIts rng1 (dCons (dOp ixD (dVar 3) (dC (.int 0))) dNil)) (tgN 7) dYes (dOp ixD (dVar 5) (dOp ixD (dVar 3) (dOp addD (dC (.int 2)) (dVar 7)))) [7]))) (seqF (setF 8 (dStr joinD (dC (.str (Sg []))) (dLc (dIts rng1 (dCons (dOp ixD (dVar 3) (dC (.int 1))) dNil)) (tgN 7) dYes (dOp ixD (dVar 5) (dOp ixD (dVar 3) (dOp addD (dC (.int 5)) (dVar 7)))) [7]))) (seqF (ifF (dAnd (dT (dOp gtD (dOp ixD (dVar 3) (dC (.int 0))) (dC (.int 0)))) (dT (dOp eqD (dOp ixD (dVar 3) (dC (.int 8))) (dC (.int 0))))) (setF 6 (dOp addD (dC (.str (Sg [46]))) (dSl slD (dVar 6) (dPart (dC (.int 1))) dNoP))) .nx) (seqF (ifF (dAnd (dT (dOp gtD (dOp ixD (dVar 3) (dC (.int 1))) (dC (.int 0)))) (dT (dOp eqD (dOp ixD (dVar 3) (dC (.int 9))) (dC (.int 0))))) (setF 8 (dOp addD (dSl slD (dVar 8) dNoP (dPart (dUn negD (dC (.int 1))))) (dC (.str (Sg [46]))))) .nx) (retF (dTup (dCons (dVar 6) (dCons (dVar 8) (dCons (dOp ltD (dOp ixD (dVar 3) (dC (.int 10))) (dVar 2)) dNil)))))))))))))
def F_l_joint : List D → Res D := runF 9 false Fb_l_joint
def Fb_l_written : Rho → SR := (seqF (ifF (dTru (dOp ixD (dVar 0) (dC (.int 2)))) (retF (dOp addD (dOp addD (dOp addD (dOp ixD (dVar 0) (dC (.int 0))) (dC (.str (Sg [45])))) (dOp ixD (dVar 0) (dC (.int 1)))) (dC (.str (Sg [32, 110, 111]))))) .nx) (retF (dOp addD (dOp addD (dOp ixD (dVar 0) (dC (.int 0))) (dC (.str (Sg [45])))) (dOp ixD (dVar 0) (dC (.int 1))))))
def F_l_written : List D → Res D := runF 1 false Fb_l_written
def Fb_l_odd : Rho → SR := (seqF (setF 1 (dLst (dCons (dC (.str (Sg []))) (dCons (dC (.str (Sg [110, 111]))) (dCons (dC (.str (Sg [32, 110, 111]))) (dCons (dC (.str (Sg [45, 32, 32, 110, 111]))) (dCons (dC (.str (Sg [97, 45, 98, 32, 32, 110, 111]))) (dCons (dC (.str (Sg [97, 45, 98, 32, 110, 111, 32]))) (dCons (dC (.str (Sg [32, 97, 45, 98]))) (dCons (dC (.str (Sg [97, 45, 98, 32, 110, 111, 116]))) (dCons (dC (.str (Sg [97, 45, 98, 32, 78, 111]))) (dCons (dC (.str (Sg [45, 45]))) dNil)))))))))))) (seqF (setF 1 (dOp addD (dVar 1) (dLst (dCons (dC (.str (Sg [97, 45, 98, 45, 99]))) (dCons (dC (.str (Sg [97, 98, 99, 100, 45]))) (dCons (dC (.str (Sg [45, 97, 98, 99, 100]))) (dCons (dC (.str (Sg [97, 46, 45]))) (dCons (dC (.str (Sg [45, 46, 97]))) (dCons (dC (.str (Sg [46, 46, 45]))) (dCons (dC (.str (Sg [45, 46, 46]))) (dCons (dC (.str (Sg [46, 97, 46, 45]))) (dCons (dC (.str (Sg [65, 45, 98]))) (dCons (dC (.str (Sg [97, 45, 66]))) dNil))))))))))))) (seqF (setF 1 (dOp addD (dVar 1) (dLst (dCons (dC (.str (Sg [97, 49, 45]))) (dCons (dC (.str (Sg [97, 95, 98]))) (dCons (dC (.str (Sg [97, 32, 45, 32, 98]))) (dCons (dC (.str (Sg [117, 110, 45, 63, 32, 110, 111, 32, 110, 111]))) (dCons (dC (.str (Sg [97, 45, 98, 10]))) (dCons (dC (.str (Sg [45, 110, 111]))) (dCons (dC (.str (Sg [110, 45, 111, 32, 110, 111]))) (dCons (dC (.str (Sg [46, 45, 46]))) (dCons (dC (.str (Sg [63, 63, 63, 45, 63, 63, 63]))) dNil)))))))))))) (seqF (setF 1 (dOp addD (dVar 1) (dLst (dCons (dC (.str (Sg [46, 63, 63, 45, 63, 63, 46]))) (dCons (dC (.str (Sg [45, 32, 110, 111]))) (dCons (dC (.str (Sg [45]))) (dCons (dC (.str (Sg [45, 110, 111, 32, 110, 111]))) (dCons (dC (.str (Sg [46, 97, 98, 99, 45]))) (dCons (dC (.str (Sg [45, 97, 98, 99, 46]))) (dCons (dC (.str (Sg [97, 45, 98, 32, 110, 111, 10]))) (dCons (dC (.str (Sg [42, 45, 97]))) (dCons (dC (.str (Sg [117, 110, 45, 63, 9]))) dNil)))))))))))) (retF (dOp ixD (dVar 1) (dVar 0)))))))
def F_l_odd : List D → Res D := runF 2 false Fb_l_odd
def Fb_l_line : Rho → SR := (seqF (setF 3 (dCall F_l_written (dCons (dCall F_l_joint (dCons (dVar 0) (dCons (dVar 2) (dCons (dC (.int 1)) dNil)))) dNil))) (seqF (setF 4 (dCall F_l_row (dCons (dVar 1) (dCons (dLst (dCons (dC (.int 12)) (dCons (dC (.int 38)) (dCons (dC (.int 3)) (dCons (dC (.int 12)) (dCons (dC (.int 16)) dNil)))))) dNil)))) (seqF (ifF (dT (dOp eqD (dOp ixD (dVar 4) (dC (.int 0))) (dC (.int 0)))) (retF (dCall F_l_odd (dCons (dOp ixD (dVar 4) (dC (.int 1))) dNil))) .nx) (seqF (ifF (dT (dOp eqD (dOp ixD (dVar 4) (dC (.int 0))) (dC (.int 1)))) (seqF (setF 5 (dOp modD (dCall (g1 intD) (dCons (dOp ixD (dVar 4) (dC (.int 3))) dNil)) (dOp addD (dCall (g1 lenD) (dCons (dVar 3) dNil)) (dC (.int 1))))) (seqF (setF 6 (dOp ixD (dC (.str (Sg [45, 46, 63, 32, 97, 98, 110, 111, 65, 122, 48, 126, 95, 42, 45, 46]))) (dOp ixD (dVar 4) (dC (.int 4))))) (seqF (ifF (dT (dOp eqD (dOp ixD (dVar 4) (dC (.int 2))) (dC (.int 0)))) (retF (dOp addD (dOp addD (dSl slD (dVar 3) dNoP (dPart (dVar 5))) (dVar 6)) (dSl slD (dVar 3) (dPart (dVar 5)) dNoP))) .nx) (seqF (ifF (dT (dOp eqD (dOp ixD (dVar 4) (dC (.int 2))) (dC (.int 1)))) (retF (dOp addD (dOp addD (dSl slD (dVar 3) dNoP (dPart (dVar 5))) (dVar 6)) (dSl slD (dVar 3) (dPart (dOp addD (dVar 5) (dC (.int 1)))) dNoP))) .nx) (retF (dOp addD (dSl slD (dVar 3) dNoP (dPart (dVar 5))) (dSl slD (dVar 3) (dPart (dOp addD (dVar 5) (dC (.int 1)))) dNoP))))))) .nx) (retF (dVar 3))))))
def F_l_line : List D → Res D := runF 7 false Fb_l_line
def Lp_l_is_part_1 : Rho → SR := (seqF (ifF (dAnd (dT (dOp eqD (dOp ixD (dVar 0) (dVar 2)) (dC (.str (Sg [46]))))) (dT (dOp eqD (dVar 2) (dVar 1)))) .ct .nx) (ifF (dT (dOp ninD (dOp ixD (dVar 0) (dVar 2)) (dC (.str (Sg [97, 98, 99, 100, 101, 102, 103, 104, 105, 106, 107, 108, 109, 110, 111, 112, 113, 114, 115, 116, 117, 118, 119, 120, 121, 122, 63]))))) (retF (dC (.bl false))) .nx))
def Fb_l_is_part : Rho → SR := (seqF (ifF (dT (dOp gtD (dCall (g1 lenD) (dCons (dVar 0) dNil)) (dC (.int 3)))) (retF (dC (.bl false))) .nx) (seqF (forF (dIts rng1 (dCons (dCall (g1 lenD) (dCons (dVar 0) dNil)) dNil)) (tgN 2) Lp_l_is_part_1) (retF (dC (.bl true)))))
def F_l_is_part : List D → Res D := runF 3 false Fb_l_is_part
def Fb_l_is_written : Rho → SR := (seqF (ifF (dT (dOp eqD (dSl slD (dVar 0) (dPart (dUn negD (dC (.int 3)))) dNoP) (dC (.str (Sg [32, 110, 111]))))) (setF 0 (dSl slD (dVar 0) dNoP (dPart (dUn negD (dC (.int 3)))))) .nx) (seqF (setF 1 (dStr findD (dVar 0) (dC (.str (Sg [45]))))) (seqF (ifF (dT (dOp ltD (dVar 1) (dC (.int 0)))) (retF (dC (.bl false))) .nx) (seqF (setF 2 (dSl slD (dVar 0) (dPart (dOp addD (dVar 1) (dC (.int 1)))) dNoP)) (retF (dAndV (dCall F_l_is_part (dCons (dSl slD (dVar 0) dNoP (dPart (dVar 1))) (dCons (dC (.int 0)) dNil))) (dCall F_l_is_part (dCons (dVar 2) (dCons (dOp subD (dCall (g1 lenD) (dCons (dVar 2) dNil)) (dC (.int 1))) dNil)))))))))
def F_l_is_written : List D → Res D := runF 3 false Fb_l_is_written
def Fb_l_made : Rho → SR := (seqF (try2F isM_TooLarge 2 (seqF (ifF (dT (dIsX isM_BadJoint 2)) (retF (dTup (dCons (dC (.str (Sg [111, 100, 100]))) dNil))) .nx) (retF (dTup (dCons (dC (.str (Sg [108, 97, 114, 103, 101]))) (dCons (dXf 2 "many") dNil))))) isM_BadJoint 2 (retF (dTup (dCons (dC (.str (Sg [98, 97, 100]))) (dCons (dXf 2 "text") dNil)))) (setF 1 (dCall F_Joints_init (dCons (dVar 0) dNil)))) (retF (dTup (dCons (dC (.str (Sg [109, 97, 100, 101]))) (dCons (dCall (g1 (lenO "Joints" F_Joints_len)) (dCons (dVar 1) dNil)) (dCons (dCall (g1 (listO "Joints" "lines" "lines")) (dCons (dVar 1) dNil)) (dCons (dLc (dIt (itO "Joints" "lines") (dVar 1)) (tgN 3) dYes (dVar 3) [3]) dNil)))))))
def F_l_made : List D → Res D := runF 4 false Fb_l_made
def Fb_l_refused : Rho → SR := (seqF (tryF isM_LaidError 1 (dropF (dCall F_Joints_init (dCons (dVar 0) dNil))) (retF (dIsX isM_ValueError 1))) (retF (dC (.bl false))))
def F_l_refused : List D → Res D := runF 2 false Fb_l_refused
def Lp_law_1 : Rho → SR := (seqF (setF 5 (dOp addD (dCall F_l_cell (dCons (dVar 0) (dCons (dOp addD (dC (.int 12)) (dVar 4)) dNil))) (dOp mulX (dC (.int 3)) (dVar 4)))) (appF 3 (dCall F_l_line (dCons (dOp addD (dCall F_l_cell (dCons (dVar 0) (dCons (dOp addD (dC (.int 2)) (dVar 4)) dNil))) (dVar 4)) (dCons (dVar 5) (dCons (dVar 1) dNil))))))
def Fb_law : Rho → SR := (seqF (setF 1 (dCall F_l_letters (dCons (dCall F_l_cell (dCons (dVar 0) (dCons (dC (.int 0)) dNil))) dNil))) (seqF (setF 2 (dOp ixD (dCall F_l_row (dCons (dCall F_l_cell (dCons (dVar 0) (dCons (dC (.int 1)) dNil))) (dCons (dLst (dCons (dC (.int 11)) dNil)) dNil))) (dC (.int 0)))) (seqF (setF 3 (dLst dNil)) (seqF (forF (dIts rng1 (dCons (dVar 2) dNil)) (tgN 4) Lp_law_1) (seqF (setF 6 (dLc (dIt itemsL (dVar 3)) (tgN 7) (dNot (dT (dCall F_l_is_written (dCons (dVar 7) dNil)))) (dVar 7) [7])) (seqF (setF 8 (dTup (dCons (dC (.str (Sg [109, 97, 100, 101]))) (dCons (dVar 2) (dCons (dCall (g1 listD) (dCons (dVar 3) dNil)) (dCons (dCall (g1 listD) (dCons (dVar 3) dNil)) dNil)))))) (seqF (ifF (dT (dOp gtD (dVar 2) (dC (.int 8)))) (setF 8 (dTup (dCons (dC (.str (Sg [108, 97, 114, 103, 101]))) (dCons (dVar 2) dNil)))) (ifF (dT (dOp gtD (dCall (g1 lenD) (dCons (dVar 6) dNil)) (dC (.int 0)))) (setF 8 (dTup (dCons (dC (.str (Sg [98, 97, 100]))) (dCons (dOp ixD (dVar 6) (dC (.int 0))) dNil)))) .nx)) (seqF (setF 9 (dCall (g1 listD) (dCons (dVar 3) dNil))) (seqF (ifF (dOr (dNot (dT (dCall (F_l_same 8) (dCons (dCall F_l_made (dCons (dVar 9) dNil)) (dCons (dVar 8) dNil))))) (dNot (dT (dCall (F_l_same 8) (dCons (dVar 9) (dCons (dVar 3) dNil)))))) (retF (dC (.bl false))) .nx) (seqF (ifF (dAnd (dT (dOp neD (dOp ixD (dVar 8) (dC (.int 0))) (dC (.str (Sg [109, 97, 100, 101]))))) (dNot (dT (dCall F_l_refused (dCons (dCall (g1 listD) (dCons (dVar 3) dNil)) dNil))))) (retF (dC (.bl false))) .nx) (seqF (setF 10 (dLc (dIt itemsL (dVar 3)) (tgN 7) (dT (dCall F_l_is_written (dCons (dVar 7) dNil))) (dVar 7) [7])) (seqF (setF 10 (dSl slD (dVar 10) dNoP (dPart (dC (.int 8))))) (seqF (setF 9 (dCall (g1 listD) (dCons (dVar 10) dNil))) (seqF (setF 11 (dCall F_Joints_init (dCons (dVar 9) dNil))) (seqF (ifF (dNot (dT (dCall (F_l_same 8) (dCons (dVar 9) (dCons (dVar 10) dNil))))) (retF (dC (.bl false))) .nx) (seqF (appF 9 (dC (.str (Sg [45])))) (seqF (stoF 9 (dC (.int 0)) (dC (.str (Sg [97, 45, 97, 32, 110, 111])))) (seqF (ifF (dT (dOp neD (dCall (g1 (lenO "Joints" F_Joints_len)) (dCons (dVar 11) dNil)) (dCall (g1 lenD) (dCons (dVar 10) dNil)))) (retF (dC (.bl false))) .nx) (seqF (ifF (dNot (dT (dCall (F_l_same 8) (dCons (dCall (g1 (listO "Joints" "lines" "lines")) (dCons (dVar 11) dNil)) (dCons (dVar 10) dNil))))) (retF (dC (.bl false))) .nx) (seqF (setF 12 (dCall F_Joints_init (dCons (dCall (g1 listD) (dCons (dSl slD (dVar 10) (dPart (dC (.int 1))) dNoP) dNil)) dNil))) (seqF (ifF (dOr (dT (dOp neD (dCall (g1 (lenO "Joints" F_Joints_len)) (dCons (dVar 12) dNil)) (dCall (g1 lenD) (dCons (dSl slD (dVar 10) (dPart (dC (.int 1))) dNoP) dNil)))) (dNot (dT (dCall (F_l_same 8) (dCons (dCall (g1 (listO "Joints" "lines" "lines")) (dCons (dVar 12) dNil)) (dCons (dSl slD (dVar 10) (dPart (dC (.int 1))) dNoP) dNil)))))) (retF (dC (.bl false))) .nx) (retF (dCall (F_l_same 8) (dCons (dCall (g1 (listO "Joints" "lines" "lines")) (dCons (dVar 11) dNil)) (dCons (dVar 10) dNil)))))))))))))))))))))))))
def F_law : List D → Res D := runF 13 false Fb_law
end
end Lk
end S_P_data
section S_M
set_option Elab.async false
set_option linter.all false
set_option maxHeartbeats 2000000
set_option maxRecDepth 100000
namespace Lk
open PySem L2 Dx
local macro_rules
  | `(tactic| array_get_dec) => `(tactic| repeat (first
    | ((with_reducible apply Dx.rs_asSJ); · (first | omega | (simp only [List.length_append, List.length_cons, List.length_nil, List.length_map, List.length_range, List.length_replicate, List.length_reverse, List.length_take, List.length_drop]; omega)))
    | with_reducible refine Dx.rs_c ?_
    | with_reducible refine Dx.rs_op ?_
    | with_reducible refine Dx.rs_str ?_
    | with_reducible refine Dx.rs_asS ?_
    | with_reducible refine Dx.rs_un ?_
    | with_reducible refine Dx.rs_nil ?_
    | with_reducible refine Dx.rs_cons ?_
    | with_reducible refine Dx.rs_call ?_
    | with_reducible refine Dx.rs_T ?_
    | with_reducible refine Dx.rs_asB ?_
    | with_reducible refine Dx.rs_asI ?_
    | with_reducible refine Dx.rs_not ?_
    | with_reducible refine Dx.rs_and ?_
    | with_reducible refine Dx.rs_or ?_
    | with_reducible refine Dx.rs_andV ?_
    | with_reducible refine Dx.rs_orV ?_
    | with_reducible refine Dx.rs_notV ?_
    | with_reducible refine Dx.rs_chain ?_
    | with_reducible refine Dx.rs_noP ?_
    | with_reducible refine Dx.rs_part ?_
    | with_reducible refine Dx.rs_sl ?_
    | with_reducible refine Dx.rs_it ?_
    | with_reducible refine Dx.rs_its ?_
    | with_reducible refine Dx.rs_yes ?_
    | with_reducible refine Dx.rs_meth ?_
    | with_reducible refine Dx.rs_tru ?_
    | with_reducible refine Dx.rs_truB ?_
    | with_reducible refine Dx.rs_truI ?_
    | with_reducible refine Dx.rs_truL ?_
    | with_reducible refine Dx.rs_truT ?_
    | with_reducible refine Dx.rs_truN ?_
    | with_reducible refine Dx.rs_ifx ?_
    | with_reducible refine Dx.rs_add ?_
    | with_reducible refine Dx.rs_sub ?_
    | with_reducible refine Dx.rs_neg ?_
    | with_reducible refine Dx.rs_eqI ?_
    | with_reducible refine Dx.rs_neI ?_
    | with_reducible refine Dx.rs_eqS ?_
    | with_reducible refine Dx.rs_neS ?_
    | with_reducible refine Dx.rs_eqB ?_
    | with_reducible refine Dx.rs_neB ?_
    | with_reducible refine Dx.rs_lt ?_
    | with_reducible refine Dx.rs_le ?_
    | with_reducible refine Dx.rs_gt ?_
    | with_reducible refine Dx.rs_ge ?_
    | with_reducible refine Dx.rs_is ?_
    | with_reducible refine Dx.rs_isn ?_
    | with_reducible refine Dx.rs_inS ?_
    | with_reducible refine Dx.rs_ninS ?_
    | with_reducible refine Dx.rs_lenL ?_
    | with_reducible refine Dx.rs_lenF ?_
    | with_reducible refine Dx.rs_lenT ?_
    | with_reducible refine Dx.rs_int ?_
    | with_reducible refine Dx.rs_intB ?_
    | with_reducible refine Dx.rs_abs ?_
    | with_reducible refine Dx.rs_listL ?_
    | with_reducible refine Dx.rs_listT ?_
    | with_reducible refine Dx.rs_tupL ?_
    | with_reducible refine Dx.rs_tupT ?_
    | with_reducible refine Dx.rs_slL ?_
    | with_reducible refine Dx.rs_slO ?_
    | with_reducible refine Dx.rs_slT ?_
    | with_reducible refine Dx.rs_itsL ?_
    | with_reducible refine Dx.rs_itsT ?_
    | with_reducible refine Dx.rs_itsS ?_
    | with_reducible refine Dx.rs_enL ?_
    | with_reducible refine Dx.rs_enT ?_
    | with_reducible refine Dx.rs_enS ?_
    | with_reducible refine Dx.rs_ints ?_
    | with_reducible refine Dx.rs_sortI ?_
    | with_reducible refine Dx.rs_sum ?_
    | with_reducible refine Dx.rs_g2 ?_
    | with_reducible refine Dx.rs_all ?_
    | with_reducible refine Dx.rs_disp ?_
    | with_reducible refine Dx.rs_pnil ?_
    | with_reducible refine Dx.rs_pcons ?_
    | with_reducible refine Dx.rs_jnil ?_
    | with_reducible refine Dx.rs_jcons ?_
    | with_reducible refine Dx.rs_dJoin ?_
    | with_reducible refine Dx.rs_ord ?_
    | with_reducible refine Dx.rs_leS ?_
    | with_reducible refine Dx.rs_inKI ?_
    | with_reducible refine Dx.rs_inI ?_
    | with_reducible refine Dx.rs_ninI ?_
    | with_reducible refine Dx.rs_inTk ?_
    | with_reducible refine Dx.rs_getET ?_
    | with_reducible refine Dx.rs_dD0 ?_
    | with_reducible refine Dx.rs_listTk ?_
    | with_reducible refine Dx.rs_lenTk ?_
    | with_reducible refine Dx.rs_itTk ?_
    | with_reducible refine Dx.rs_end ?_
    | with_reducible refine Dx.rs_start ?_
    | with_reducible refine Dx.rs_star ?_
    | with_reducible refine Dx.rs_itemsL ?_
    | with_reducible refine Dx.rs_itemsT ?_
    | with_reducible refine Dx.rs_zipL ?_
    | with_reducible refine Dx.rs_zipS ?_
    | with_reducible refine Dx.rs_isi_non_bool ?_
    | with_reducible refine Dx.rs_isi_non_int ?_
    | with_reducible refine Dx.rs_isi_non_str ?_
    | with_reducible refine Dx.rs_isi_non_tuple ?_
    | with_reducible refine Dx.rs_isi_non_list ?_
    | with_reducible refine Dx.rs_isi_bl_bool ?_
    | with_reducible refine Dx.rs_isi_bl_int ?_
    | with_reducible refine Dx.rs_isi_bl_str ?_
    | with_reducible refine Dx.rs_isi_bl_tuple ?_
    | with_reducible refine Dx.rs_isi_bl_list ?_
    | with_reducible refine Dx.rs_isi_int_bool ?_
    | with_reducible refine Dx.rs_isi_int_int ?_
    | with_reducible refine Dx.rs_isi_int_str ?_
    | with_reducible refine Dx.rs_isi_int_tuple ?_
    | with_reducible refine Dx.rs_isi_int_list ?_
    | with_reducible refine Dx.rs_isi_str_bool ?_
    | with_reducible refine Dx.rs_isi_str_int ?_
    | with_reducible refine Dx.rs_isi_str_str ?_
    | with_reducible refine Dx.rs_isi_str_tuple ?_
    | with_reducible refine Dx.rs_isi_str_list ?_
    | with_reducible refine Dx.rs_isi_lst_bool ?_
    | with_reducible refine Dx.rs_isi_lst_int ?_
    | with_reducible refine Dx.rs_isi_lst_str ?_
    | with_reducible refine Dx.rs_isi_lst_tuple ?_
    | with_reducible refine Dx.rs_isi_lst_list ?_
    | with_reducible refine Dx.rs_isi_tup_bool ?_
    | with_reducible refine Dx.rs_isi_tup_int ?_
    | with_reducible refine Dx.rs_isi_tup_str ?_
    | with_reducible refine Dx.rs_isi_tup_tuple ?_
    | with_reducible refine Dx.rs_isi_tup_list ?_
    | with_reducible refine Dx.ss_nx ?_
    | with_reducible refine Dx.ss_bk ?_
    | with_reducible refine Dx.ss_ct ?_
    | with_reducible refine Dx.ss_seq ?_
    | with_reducible refine Dx.ss_set ?_
    | with_reducible refine Dx.ss_ret ?_
    | with_reducible refine Dx.ss_drop ?_
    | with_reducible refine Dx.ss_if ?_
    | with_reducible refine Dx.ss_par ?_
    | with_reducible refine Dx.ss_par3 ?_
    | with_reducible refine Dx.ss_aug ?_
    | ((with_reducible apply Dx.rs_var); · (rfl))
    | ((with_reducible apply Dx.rs_ixL); · (first | rfl | assumption))
    | ((with_reducible apply Dx.rs_ixF); · (first | rfl | assumption))
    | ((with_reducible apply Dx.rs_ixT); · (first | rfl | assumption))
    | ((with_reducible apply Dx.rs_fld); · (rfl))
    | ((with_reducible apply Dx.rs_isObj); · (decide))
    | ((with_reducible apply Dx.rs_mod); · (omega))
    | ((with_reducible apply Dx.rs_fdiv); · (omega))
    | ((with_reducible apply Dx.rs_addS); · ((first | exact Nat.le_of_ble_eq_true rfl | assumption | (refine Nat.le_trans (m := 100000) ?_ Dx.sz5; first | omega | (simp only [List.length_append, List.length_cons, List.length_nil, List.length_map, List.length_range, List.length_replicate, List.length_reverse, List.length_take, List.length_drop]; omega)))))
    | ((with_reducible apply Dx.rs_addT); · ((first | exact Nat.le_of_ble_eq_true rfl | assumption | (refine Nat.le_trans (m := 100000) ?_ Dx.sz5; first | omega | (simp only [List.length_append, List.length_cons, List.length_nil, List.length_map, List.length_range, List.length_replicate, List.length_reverse, List.length_take, List.length_drop]; omega)))))
    | ((with_reducible apply Dx.rs_addLL); · ((first | exact Nat.le_of_ble_eq_true rfl | assumption | (refine Nat.le_trans (m := 100000) ?_ Dx.sz5; first | omega | (simp only [List.length_append, List.length_cons, List.length_nil, List.length_map, List.length_range, List.length_replicate, List.length_reverse, List.length_take, List.length_drop]; omega)))))
    | ((with_reducible apply Dx.rs_addLO); · ((first | exact Nat.le_of_ble_eq_true rfl | assumption | (refine Nat.le_trans (m := 100000) ?_ Dx.sz5; first | omega | (simp only [List.length_append, List.length_cons, List.length_nil, List.length_map, List.length_range, List.length_replicate, List.length_reverse, List.length_take, List.length_drop]; omega)))))
    | ((with_reducible apply Dx.rs_lenS); · ((first | exact Nat.le_of_ble_eq_true rfl | assumption | (refine Nat.le_trans (m := 100000) ?_ Dx.sz5; first | omega | (simp only [List.length_append, List.length_cons, List.length_nil, List.length_map, List.length_range, List.length_replicate, List.length_reverse, List.length_take, List.length_drop]; omega)))))
    | ((with_reducible apply Dx.rs_slS); · ((first | exact Nat.le_of_ble_eq_true rfl | assumption | (refine Nat.le_trans (m := 100000) ?_ Dx.sz5; first | omega | (simp only [List.length_append, List.length_cons, List.length_nil, List.length_map, List.length_range, List.length_replicate, List.length_reverse, List.length_take, List.length_drop]; omega)))))
    | ((with_reducible apply Dx.rs_mul); · ((first | exact Or.inl (Dx.small_of (by omega) (by omega)) | exact Or.inr (Dx.small_of (by omega) (by omega)))))
    | ((with_reducible apply Dx.rs_strI); · (omega))
    | ((with_reducible apply Dx.rs_fmtI); · (omega))
    | ((with_reducible apply Dx.rs_fmtS); · ((first | exact Nat.le_of_ble_eq_true rfl | assumption | (refine Nat.le_trans (m := 100000) ?_ Dx.sz5; first | omega | (simp only [List.length_append, List.length_cons, List.length_nil, List.length_map, List.length_range, List.length_replicate, List.length_reverse, List.length_take, List.length_drop]; omega)))))
    | ((with_reducible apply Dx.rs_split); · (refine And.intro (by decide) ?_; (first | exact Nat.le_of_ble_eq_true rfl | assumption | (refine Nat.le_trans (m := 100000) ?_ Dx.sz5; first | omega | (simp only [List.length_append, List.length_cons, List.length_nil, List.length_map, List.length_range, List.length_replicate, List.length_reverse, List.length_take, List.length_drop]; omega)))))
    | ((with_reducible apply Dx.ss_app); · (rfl))
    | (with_reducible refine Dx.rs_tup ?_)
    | (with_reducible refine Dx.rs_lst ?_)
    | ((with_reducible refine And.intro (a := List.length _ ≤ PySem.sizeLine) ?_ ?_); · ((first | exact Nat.le_of_ble_eq_true rfl | assumption | (refine Nat.le_trans (m := 100000) ?_ Dx.sz5; first | omega | (simp only [List.length_append, List.length_cons, List.length_nil, List.length_map, List.length_range, List.length_replicate, List.length_reverse, List.length_take, List.length_drop]; omega)))))
    | ((with_reducible refine And.intro (a := List.length _ < PySem.sizeLine) ?_ ?_); · (first | exact Nat.le_of_ble_eq_true rfl | (refine Nat.lt_of_lt_of_le (m := 100000) ?_ Dx.sz5; first | omega | (simp only [List.length_append, List.length_cons, List.length_nil, List.length_map, List.length_range, List.length_replicate, List.length_reverse, List.length_take, List.length_drop]; omega))))))
local macro_rules
  | `(tactic| array_mem_dec) => `(tactic| repeat (first
    | with_reducible refine Dx.ss_ifo ?_
    | with_reducible refine Dx.ss_ifa ?_
    | with_reducible refine Dx.rs_andc ?_
    | with_reducible refine Dx.rs_orc ?_
    | with_reducible refine Dx.rs_andVc ?_
    | with_reducible refine Dx.rs_orVc ?_
    | ((with_reducible apply Dx.rs_asSJ); · (first | omega | (simp only [List.length_append, List.length_cons, List.length_nil, List.length_map, List.length_range, List.length_replicate, List.length_reverse, List.length_take, List.length_drop]; omega)))
    | with_reducible refine Dx.rs_c ?_
    | with_reducible refine Dx.rs_op ?_
    | with_reducible refine Dx.rs_str ?_
    | with_reducible refine Dx.rs_asS ?_
    | with_reducible refine Dx.rs_un ?_
    | with_reducible refine Dx.rs_nil ?_
    | with_reducible refine Dx.rs_cons ?_
    | with_reducible refine Dx.rs_call ?_
    | with_reducible refine Dx.rs_T ?_
    | with_reducible refine Dx.rs_asB ?_
    | with_reducible refine Dx.rs_asI ?_
    | with_reducible refine Dx.rs_not ?_
    | with_reducible refine Dx.rs_notV ?_
    | with_reducible refine Dx.rs_chain ?_
    | with_reducible refine Dx.rs_noP ?_
    | with_reducible refine Dx.rs_part ?_
    | with_reducible refine Dx.rs_sl ?_
    | with_reducible refine Dx.rs_it ?_
    | with_reducible refine Dx.rs_its ?_
    | with_reducible refine Dx.rs_yes ?_
    | with_reducible refine Dx.rs_meth ?_
    | with_reducible refine Dx.rs_tru ?_
    | with_reducible refine Dx.rs_truB ?_
    | with_reducible refine Dx.rs_truI ?_
    | with_reducible refine Dx.rs_truL ?_
    | with_reducible refine Dx.rs_truT ?_
    | with_reducible refine Dx.rs_truN ?_
    | with_reducible refine Dx.rs_add ?_
    | with_reducible refine Dx.rs_sub ?_
    | with_reducible refine Dx.rs_neg ?_
    | with_reducible refine Dx.rs_eqI ?_
    | with_reducible refine Dx.rs_neI ?_
    | with_reducible refine Dx.rs_eqS ?_
    | with_reducible refine Dx.rs_neS ?_
    | with_reducible refine Dx.rs_eqB ?_
    | with_reducible refine Dx.rs_neB ?_
    | with_reducible refine Dx.rs_lt ?_
    | with_reducible refine Dx.rs_le ?_
    | with_reducible refine Dx.rs_gt ?_
    | with_reducible refine Dx.rs_ge ?_
    | with_reducible refine Dx.rs_is ?_
    | with_reducible refine Dx.rs_isn ?_
    | with_reducible refine Dx.rs_inS ?_
    | with_reducible refine Dx.rs_ninS ?_
    | with_reducible refine Dx.rs_lenL ?_
    | with_reducible refine Dx.rs_lenF ?_
    | with_reducible refine Dx.rs_lenT ?_
    | with_reducible refine Dx.rs_int ?_
    | with_reducible refine Dx.rs_intB ?_
    | with_reducible refine Dx.rs_abs ?_
    | with_reducible refine Dx.rs_listL ?_
    | with_reducible refine Dx.rs_listT ?_
    | with_reducible refine Dx.rs_tupL ?_
    | with_reducible refine Dx.rs_tupT ?_
    | with_reducible refine Dx.rs_slL ?_
    | with_reducible refine Dx.rs_slO ?_
    | with_reducible refine Dx.rs_slT ?_
    | with_reducible refine Dx.rs_itsL ?_
    | with_reducible refine Dx.rs_itsT ?_
    | with_reducible refine Dx.rs_itsS ?_
    | with_reducible refine Dx.rs_enL ?_
    | with_reducible refine Dx.rs_enT ?_
    | with_reducible refine Dx.rs_enS ?_
    | with_reducible refine Dx.rs_ints ?_
    | with_reducible refine Dx.rs_sortI ?_
    | with_reducible refine Dx.rs_sum ?_
    | with_reducible refine Dx.rs_g2 ?_
    | with_reducible refine Dx.rs_all ?_
    | with_reducible refine Dx.rs_disp ?_
    | with_reducible refine Dx.rs_pnil ?_
    | with_reducible refine Dx.rs_pcons ?_
    | with_reducible refine Dx.rs_jnil ?_
    | with_reducible refine Dx.rs_jcons ?_
    | with_reducible refine Dx.rs_dJoin ?_
    | with_reducible refine Dx.rs_ord ?_
    | with_reducible refine Dx.rs_leS ?_
    | with_reducible refine Dx.rs_inKI ?_
    | with_reducible refine Dx.rs_inI ?_
    | with_reducible refine Dx.rs_ninI ?_
    | with_reducible refine Dx.rs_inTk ?_
    | with_reducible refine Dx.rs_getET ?_
    | with_reducible refine Dx.rs_dD0 ?_
    | with_reducible refine Dx.rs_listTk ?_
    | with_reducible refine Dx.rs_lenTk ?_
    | with_reducible refine Dx.rs_itTk ?_
    | with_reducible refine Dx.rs_end ?_
    | with_reducible refine Dx.rs_start ?_
    | with_reducible refine Dx.rs_star ?_
    | with_reducible refine Dx.rs_itemsL ?_
    | with_reducible refine Dx.rs_itemsT ?_
    | with_reducible refine Dx.rs_zipL ?_
    | with_reducible refine Dx.rs_zipS ?_
    | with_reducible refine Dx.rs_isi_non_bool ?_
    | with_reducible refine Dx.rs_isi_non_int ?_
    | with_reducible refine Dx.rs_isi_non_str ?_
    | with_reducible refine Dx.rs_isi_non_tuple ?_
    | with_reducible refine Dx.rs_isi_non_list ?_
    | with_reducible refine Dx.rs_isi_bl_bool ?_
    | with_reducible refine Dx.rs_isi_bl_int ?_
    | with_reducible refine Dx.rs_isi_bl_str ?_
    | with_reducible refine Dx.rs_isi_bl_tuple ?_
    | with_reducible refine Dx.rs_isi_bl_list ?_
    | with_reducible refine Dx.rs_isi_int_bool ?_
    | with_reducible refine Dx.rs_isi_int_int ?_
    | with_reducible refine Dx.rs_isi_int_str ?_
    | with_reducible refine Dx.rs_isi_int_tuple ?_
    | with_reducible refine Dx.rs_isi_int_list ?_
    | with_reducible refine Dx.rs_isi_str_bool ?_
    | with_reducible refine Dx.rs_isi_str_int ?_
    | with_reducible refine Dx.rs_isi_str_str ?_
    | with_reducible refine Dx.rs_isi_str_tuple ?_
    | with_reducible refine Dx.rs_isi_str_list ?_
    | with_reducible refine Dx.rs_isi_lst_bool ?_
    | with_reducible refine Dx.rs_isi_lst_int ?_
    | with_reducible refine Dx.rs_isi_lst_str ?_
    | with_reducible refine Dx.rs_isi_lst_tuple ?_
    | with_reducible refine Dx.rs_isi_lst_list ?_
    | with_reducible refine Dx.rs_isi_tup_bool ?_
    | with_reducible refine Dx.rs_isi_tup_int ?_
    | with_reducible refine Dx.rs_isi_tup_str ?_
    | with_reducible refine Dx.rs_isi_tup_tuple ?_
    | with_reducible refine Dx.rs_isi_tup_list ?_
    | with_reducible refine Dx.ss_nx ?_
    | with_reducible refine Dx.ss_bk ?_
    | with_reducible refine Dx.ss_ct ?_
    | with_reducible refine Dx.ss_seq ?_
    | with_reducible refine Dx.ss_set ?_
    | with_reducible refine Dx.ss_ret ?_
    | with_reducible refine Dx.ss_drop ?_
    | with_reducible refine Dx.ss_if ?_
    | with_reducible refine Dx.ss_par ?_
    | with_reducible refine Dx.ss_par3 ?_
    | with_reducible refine Dx.ss_aug ?_
    | ((with_reducible apply Dx.rs_var); · (rfl))
    | ((with_reducible apply Dx.rs_ixL); · (first | rfl | assumption))
    | ((with_reducible apply Dx.rs_ixF); · (first | rfl | assumption))
    | ((with_reducible apply Dx.rs_ixT); · (first | rfl | assumption))
    | ((with_reducible apply Dx.rs_fld); · (rfl))
    | ((with_reducible apply Dx.rs_isObj); · (decide))
    | ((with_reducible apply Dx.rs_mod); · (omega))
    | ((with_reducible apply Dx.rs_fdiv); · (omega))
    | ((with_reducible apply Dx.rs_addS); · ((first | exact Nat.le_of_ble_eq_true rfl | assumption | (refine Nat.le_trans (m := 100000) ?_ Dx.sz5; first | omega | (simp only [List.length_append, List.length_cons, List.length_nil, List.length_map, List.length_range, List.length_replicate, List.length_reverse, List.length_take, List.length_drop]; omega)))))
    | ((with_reducible apply Dx.rs_addT); · ((first | exact Nat.le_of_ble_eq_true rfl | assumption | (refine Nat.le_trans (m := 100000) ?_ Dx.sz5; first | omega | (simp only [List.length_append, List.length_cons, List.length_nil, List.length_map, List.length_range, List.length_replicate, List.length_reverse, List.length_take, List.length_drop]; omega)))))
    | ((with_reducible apply Dx.rs_addLL); · ((first | exact Nat.le_of_ble_eq_true rfl | assumption | (refine Nat.le_trans (m := 100000) ?_ Dx.sz5; first | omega | (simp only [List.length_append, List.length_cons, List.length_nil, List.length_map, List.length_range, List.length_replicate, List.length_reverse, List.length_take, List.length_drop]; omega)))))
    | ((with_reducible apply Dx.rs_addLO); · ((first | exact Nat.le_of_ble_eq_true rfl | assumption | (refine Nat.le_trans (m := 100000) ?_ Dx.sz5; first | omega | (simp only [List.length_append, List.length_cons, List.length_nil, List.length_map, List.length_range, List.length_replicate, List.length_reverse, List.length_take, List.length_drop]; omega)))))
    | ((with_reducible apply Dx.rs_lenS); · ((first | exact Nat.le_of_ble_eq_true rfl | assumption | (refine Nat.le_trans (m := 100000) ?_ Dx.sz5; first | omega | (simp only [List.length_append, List.length_cons, List.length_nil, List.length_map, List.length_range, List.length_replicate, List.length_reverse, List.length_take, List.length_drop]; omega)))))
    | ((with_reducible apply Dx.rs_slS); · ((first | exact Nat.le_of_ble_eq_true rfl | assumption | (refine Nat.le_trans (m := 100000) ?_ Dx.sz5; first | omega | (simp only [List.length_append, List.length_cons, List.length_nil, List.length_map, List.length_range, List.length_replicate, List.length_reverse, List.length_take, List.length_drop]; omega)))))
    | ((with_reducible apply Dx.rs_mul); · ((first | exact Or.inl (Dx.small_of (by omega) (by omega)) | exact Or.inr (Dx.small_of (by omega) (by omega)))))
    | ((with_reducible apply Dx.rs_strI); · (omega))
    | ((with_reducible apply Dx.rs_fmtI); · (omega))
    | ((with_reducible apply Dx.rs_fmtS); · ((first | exact Nat.le_of_ble_eq_true rfl | assumption | (refine Nat.le_trans (m := 100000) ?_ Dx.sz5; first | omega | (simp only [List.length_append, List.length_cons, List.length_nil, List.length_map, List.length_range, List.length_replicate, List.length_reverse, List.length_take, List.length_drop]; omega)))))
    | ((with_reducible apply Dx.rs_split); · (refine And.intro (by decide) ?_; (first | exact Nat.le_of_ble_eq_true rfl | assumption | (refine Nat.le_trans (m := 100000) ?_ Dx.sz5; first | omega | (simp only [List.length_append, List.length_cons, List.length_nil, List.length_map, List.length_range, List.length_replicate, List.length_reverse, List.length_take, List.length_drop]; omega)))))
    | ((with_reducible apply Dx.ss_app); · (rfl))
    | (with_reducible refine Dx.rs_tup ?_)
    | (with_reducible refine Dx.rs_lst ?_)
    | ((with_reducible refine And.intro (a := List.length _ ≤ PySem.sizeLine) ?_ ?_); · ((first | exact Nat.le_of_ble_eq_true rfl | assumption | (refine Nat.le_trans (m := 100000) ?_ Dx.sz5; first | omega | (simp only [List.length_append, List.length_cons, List.length_nil, List.length_map, List.length_range, List.length_replicate, List.length_reverse, List.length_take, List.length_drop]; omega)))))
    | ((with_reducible refine And.intro (a := List.length _ < PySem.sizeLine) ?_ ?_); · (first | exact Nat.le_of_ble_eq_true rfl | (refine Nat.lt_of_lt_of_le (m := 100000) ?_ Dx.sz5; first | omega | (simp only [List.length_append, List.length_cons, List.length_nil, List.length_map, List.length_range, List.length_replicate, List.length_reverse, List.length_take, List.length_drop]; omega))))
    | ((refine And.intro (fun h => absurd h ?_) (fun _ => ?_)); · (first | exact Bool.false_ne_true | (simp; done) | (simp; omega)))
    | ((refine And.intro (fun _ => ?_) (fun h => absurd h ?_)); rotate_left; · (first | exact (fun h => Bool.false_ne_true h.symm) | (simp; done) | (simp; omega)))))
local macro_rules
  | `(tactic| sizeOf_list_dec) => `(tactic| repeat (first
    | ((with_reducible apply Dx.rs_asSJ); · (first | omega | (simp only [List.length_append, List.length_cons, List.length_nil, List.length_map, List.length_range, List.length_replicate, List.length_reverse, List.length_take, List.length_drop]; omega)))
    | with_reducible refine Dx.rs_c ?_
    | with_reducible refine Dx.rs_op ?_
    | with_reducible refine Dx.rs_str ?_
    | with_reducible refine Dx.rs_asS ?_
    | with_reducible refine Dx.rs_un ?_
    | with_reducible refine Dx.rs_nil ?_
    | with_reducible refine Dx.rs_cons ?_
    | with_reducible refine Dx.rs_call ?_
    | with_reducible refine Dx.rs_T ?_
    | with_reducible refine Dx.rs_asB ?_
    | with_reducible refine Dx.rs_asI ?_
    | with_reducible refine Dx.rs_not ?_
    | with_reducible refine Dx.rs_and ?_
    | with_reducible refine Dx.rs_or ?_
    | with_reducible refine Dx.rs_andV ?_
    | with_reducible refine Dx.rs_orV ?_
    | with_reducible refine Dx.rs_notV ?_
    | with_reducible refine Dx.rs_chain ?_
    | with_reducible refine Dx.rs_noP ?_
    | with_reducible refine Dx.rs_part ?_
    | with_reducible refine Dx.rs_sl ?_
    | with_reducible refine Dx.rs_it ?_
    | with_reducible refine Dx.rs_its ?_
    | with_reducible refine Dx.rs_yes ?_
    | with_reducible refine Dx.rs_meth ?_
    | with_reducible refine Dx.rs_tru ?_
    | with_reducible refine Dx.rs_truB ?_
    | with_reducible refine Dx.rs_truI ?_
    | with_reducible refine Dx.rs_truL ?_
    | with_reducible refine Dx.rs_truT ?_
    | with_reducible refine Dx.rs_truN ?_
    | with_reducible refine Dx.rs_ifx ?_
    | with_reducible refine Dx.rs_add ?_
    | with_reducible refine Dx.rs_sub ?_
    | with_reducible refine Dx.rs_neg ?_
    | with_reducible refine Dx.rs_eqI ?_
    | with_reducible refine Dx.rs_neI ?_
    | with_reducible refine Dx.rs_eqS ?_
    | with_reducible refine Dx.rs_neS ?_
    | with_reducible refine Dx.rs_eqB ?_
    | with_reducible refine Dx.rs_neB ?_
    | with_reducible refine Dx.rs_lt ?_
    | with_reducible refine Dx.rs_le ?_
    | with_reducible refine Dx.rs_gt ?_
    | with_reducible refine Dx.rs_ge ?_
    | with_reducible refine Dx.rs_is ?_
    | with_reducible refine Dx.rs_isn ?_
    | with_reducible refine Dx.rs_inS ?_
    | with_reducible refine Dx.rs_ninS ?_
    | with_reducible refine Dx.rs_lenL ?_
    | with_reducible refine Dx.rs_lenF ?_
    | with_reducible refine Dx.rs_lenT ?_
    | with_reducible refine Dx.rs_int ?_
    | with_reducible refine Dx.rs_intB ?_
    | with_reducible refine Dx.rs_abs ?_
    | with_reducible refine Dx.rs_listL ?_
    | with_reducible refine Dx.rs_listT ?_
    | with_reducible refine Dx.rs_tupL ?_
    | with_reducible refine Dx.rs_tupT ?_
    | with_reducible refine Dx.rs_slL ?_
    | with_reducible refine Dx.rs_slO ?_
    | with_reducible refine Dx.rs_slT ?_
    | with_reducible refine Dx.rs_itsL ?_
    | with_reducible refine Dx.rs_itsT ?_
    | with_reducible refine Dx.rs_itsS ?_
    | with_reducible refine Dx.rs_enL ?_
    | with_reducible refine Dx.rs_enT ?_
    | with_reducible refine Dx.rs_enS ?_
    | with_reducible refine Dx.rs_ints ?_
    | with_reducible refine Dx.rs_sortI ?_
    | with_reducible refine Dx.rs_sum ?_
    | with_reducible refine Dx.rs_g2 ?_
    | with_reducible refine Dx.rs_all ?_
    | with_reducible refine Dx.rs_disp ?_
    | with_reducible refine Dx.rs_pnil ?_
    | with_reducible refine Dx.rs_pcons ?_
    | with_reducible refine Dx.rs_jnil ?_
    | with_reducible refine Dx.rs_jcons ?_
    | with_reducible refine Dx.rs_dJoin ?_
    | with_reducible refine Dx.rs_ord ?_
    | with_reducible refine Dx.rs_leS ?_
    | with_reducible refine Dx.rs_inKI ?_
    | with_reducible refine Dx.rs_inI ?_
    | with_reducible refine Dx.rs_ninI ?_
    | with_reducible refine Dx.rs_inTk ?_
    | with_reducible refine Dx.rs_getET ?_
    | with_reducible refine Dx.rs_dD0 ?_
    | with_reducible refine Dx.rs_listTk ?_
    | with_reducible refine Dx.rs_lenTk ?_
    | with_reducible refine Dx.rs_itTk ?_
    | with_reducible refine Dx.rs_end ?_
    | with_reducible refine Dx.rs_start ?_
    | with_reducible refine Dx.rs_star ?_
    | with_reducible refine Dx.rs_itemsL ?_
    | with_reducible refine Dx.rs_itemsT ?_
    | with_reducible refine Dx.rs_zipL ?_
    | with_reducible refine Dx.rs_zipS ?_
    | with_reducible refine Dx.rs_isi_non_bool ?_
    | with_reducible refine Dx.rs_isi_non_int ?_
    | with_reducible refine Dx.rs_isi_non_str ?_
    | with_reducible refine Dx.rs_isi_non_tuple ?_
    | with_reducible refine Dx.rs_isi_non_list ?_
    | with_reducible refine Dx.rs_isi_bl_bool ?_
    | with_reducible refine Dx.rs_isi_bl_int ?_
    | with_reducible refine Dx.rs_isi_bl_str ?_
    | with_reducible refine Dx.rs_isi_bl_tuple ?_
    | with_reducible refine Dx.rs_isi_bl_list ?_
    | with_reducible refine Dx.rs_isi_int_bool ?_
    | with_reducible refine Dx.rs_isi_int_int ?_
    | with_reducible refine Dx.rs_isi_int_str ?_
    | with_reducible refine Dx.rs_isi_int_tuple ?_
    | with_reducible refine Dx.rs_isi_int_list ?_
    | with_reducible refine Dx.rs_isi_str_bool ?_
    | with_reducible refine Dx.rs_isi_str_int ?_
    | with_reducible refine Dx.rs_isi_str_str ?_
    | with_reducible refine Dx.rs_isi_str_tuple ?_
    | with_reducible refine Dx.rs_isi_str_list ?_
    | with_reducible refine Dx.rs_isi_lst_bool ?_
    | with_reducible refine Dx.rs_isi_lst_int ?_
    | with_reducible refine Dx.rs_isi_lst_str ?_
    | with_reducible refine Dx.rs_isi_lst_tuple ?_
    | with_reducible refine Dx.rs_isi_lst_list ?_
    | with_reducible refine Dx.rs_isi_tup_bool ?_
    | with_reducible refine Dx.rs_isi_tup_int ?_
    | with_reducible refine Dx.rs_isi_tup_str ?_
    | with_reducible refine Dx.rs_isi_tup_tuple ?_
    | with_reducible refine Dx.rs_isi_tup_list ?_
    | with_reducible refine Dx.ss_nx ?_
    | with_reducible refine Dx.ss_bk ?_
    | with_reducible refine Dx.ss_ct ?_
    | with_reducible refine Dx.ss_seq ?_
    | with_reducible refine Dx.ss_set ?_
    | with_reducible refine Dx.ss_ret ?_
    | with_reducible refine Dx.ss_drop ?_
    | with_reducible refine Dx.ss_if ?_
    | with_reducible refine Dx.ss_par ?_
    | with_reducible refine Dx.ss_par3 ?_
    | with_reducible refine Dx.ss_aug ?_
    | ((with_reducible apply Dx.rs_var); · (rfl))
    | ((with_reducible apply Dx.rs_ixL); · (first | rfl | assumption))
    | ((with_reducible apply Dx.rs_ixF); · (first | rfl | assumption))
    | ((with_reducible apply Dx.rs_ixT); · (first | rfl | assumption))
    | ((with_reducible apply Dx.rs_fld); · (rfl))
    | ((with_reducible apply Dx.rs_isObj); · (decide))
    | ((with_reducible apply Dx.rs_mod); · (omega))
    | ((with_reducible apply Dx.rs_fdiv); · (omega))
    | ((with_reducible apply Dx.rs_addS); · ((first | exact Nat.le_of_ble_eq_true rfl | assumption | (refine Nat.le_trans (m := 100000) ?_ Dx.sz5; first | omega | (simp only [List.length_append, List.length_cons, List.length_nil, List.length_map, List.length_range, List.length_replicate, List.length_reverse, List.length_take, List.length_drop]; omega)))))
    | ((with_reducible apply Dx.rs_addT); · ((first | exact Nat.le_of_ble_eq_true rfl | assumption | (refine Nat.le_trans (m := 100000) ?_ Dx.sz5; first | omega | (simp only [List.length_append, List.length_cons, List.length_nil, List.length_map, List.length_range, List.length_replicate, List.length_reverse, List.length_take, List.length_drop]; omega)))))
    | ((with_reducible apply Dx.rs_addLL); · ((first | exact Nat.le_of_ble_eq_true rfl | assumption | (refine Nat.le_trans (m := 100000) ?_ Dx.sz5; first | omega | (simp only [List.length_append, List.length_cons, List.length_nil, List.length_map, List.length_range, List.length_replicate, List.length_reverse, List.length_take, List.length_drop]; omega)))))
    | ((with_reducible apply Dx.rs_addLO); · ((first | exact Nat.le_of_ble_eq_true rfl | assumption | (refine Nat.le_trans (m := 100000) ?_ Dx.sz5; first | omega | (simp only [List.length_append, List.length_cons, List.length_nil, List.length_map, List.length_range, List.length_replicate, List.length_reverse, List.length_take, List.length_drop]; omega)))))
    | ((with_reducible apply Dx.rs_lenS); · ((first | exact Nat.le_of_ble_eq_true rfl | assumption | (refine Nat.le_trans (m := 100000) ?_ Dx.sz5; first | omega | (simp only [List.length_append, List.length_cons, List.length_nil, List.length_map, List.length_range, List.length_replicate, List.length_reverse, List.length_take, List.length_drop]; omega)))))
    | ((with_reducible apply Dx.rs_slS); · ((first | exact Nat.le_of_ble_eq_true rfl | assumption | (refine Nat.le_trans (m := 100000) ?_ Dx.sz5; first | omega | (simp only [List.length_append, List.length_cons, List.length_nil, List.length_map, List.length_range, List.length_replicate, List.length_reverse, List.length_take, List.length_drop]; omega)))))
    | ((with_reducible apply Dx.rs_mul); · ((first | exact Or.inl (Dx.small_of (by omega) (by omega)) | exact Or.inr (Dx.small_of (by omega) (by omega)))))
    | ((with_reducible apply Dx.rs_strI); · (omega))
    | ((with_reducible apply Dx.rs_fmtI); · (omega))
    | ((with_reducible apply Dx.rs_fmtS); · ((first | exact Nat.le_of_ble_eq_true rfl | assumption | (refine Nat.le_trans (m := 100000) ?_ Dx.sz5; first | omega | (simp only [List.length_append, List.length_cons, List.length_nil, List.length_map, List.length_range, List.length_replicate, List.length_reverse, List.length_take, List.length_drop]; omega)))))
    | ((with_reducible apply Dx.rs_split); · (refine And.intro (by decide) ?_; (first | exact Nat.le_of_ble_eq_true rfl | assumption | (refine Nat.le_trans (m := 100000) ?_ Dx.sz5; first | omega | (simp only [List.length_append, List.length_cons, List.length_nil, List.length_map, List.length_range, List.length_replicate, List.length_reverse, List.length_take, List.length_drop]; omega)))))
    | ((with_reducible apply Dx.ss_app); · (rfl))
    | (with_reducible refine Dx.rs_tup ?_)
    | (with_reducible refine Dx.rs_lst ?_)
    | ((with_reducible refine And.intro (a := List.length _ ≤ PySem.sizeLine) ?_ ?_); · ((first | exact Nat.le_of_ble_eq_true rfl | assumption | (refine Nat.le_trans (m := 100000) ?_ Dx.sz5; first | omega | (simp only [List.length_append, List.length_cons, List.length_nil, List.length_map, List.length_range, List.length_replicate, List.length_reverse, List.length_take, List.length_drop]; omega)))))
    | ((with_reducible refine And.intro (a := List.length _ < PySem.sizeLine) ?_ ?_); · (first | exact Nat.le_of_ble_eq_true rfl | (refine Nat.lt_of_lt_of_le (m := 100000) ?_ Dx.sz5; first | omega | (simp only [List.length_append, List.length_cons, List.length_nil, List.length_map, List.length_range, List.length_replicate, List.length_reverse, List.length_take, List.length_drop]; omega))))
    | ((refine And.intro (fun h => absurd h ?_) (fun _ => ?_)); · (first | exact Bool.false_ne_true | (simp; done) | (simp; omega)))
    | ((refine And.intro (fun _ => ?_) (fun h => absurd h ?_)); rotate_left; · (first | exact (fun h => Bool.false_ne_true h.symm) | (simp; done) | (simp; omega)))))
section
theorem cell_eq (ns : List Int) (k : Nat) : F_l_cell [.fz (ns.map D.int), .int k] = .ok (.int (ns.getD k 0)) := Rs.eq (by
  refine rs_run ?_
  unfold Fb_l_cell
  array_get_dec
  refine ⟨fun h => ?_, fun h => ?_⟩
  · have h := of_decide_eq_true h
    rw [List.length_map] at h
    have hk : k < ns.length := by omega
    array_get_dec
    refine rs_ixF (atI_nat (by rw [List.getElem?_map, List.getElem?_eq_getElem hk]; rfl)) ?_
    array_get_dec
    rw [List.getD_eq_getElem?_getD, List.getElem?_eq_getElem hk]; rfl
  · have h := of_decide_eq_false h
    rw [List.length_map] at h
    have hk : ns.length ≤ k := by omega
    array_get_dec
    rw [List.getD_eq_getElem?_getD, List.getElem?_eq_none hk]; rfl)
theorem row_sp (c : Int) (ls : List Int) (hl : ∀ l ∈ ls, 0 < l ∧ l < 4611686018427387904) (hn : ls.length < 10000) : Rs (F_l_row [.int c, iL ls]) (fun d => ∃ vs, d = iL vs ∧ Fit vs ls) nE := by
  refine rs_run ?_
  unfold Fb_l_row
  array_get_dec
  refine ⟨fun hc => ?_, fun hc => ?_⟩
  · array_get_dec
    refine ss_each D.int ls (fun i r => ∃ vs rest y, Fit vs (ls.take i) ∧ r = [some (.int c), some (iL ls), some (iL vs), some (.int rest), y, none, none]) ?_ ?_ ?_ ?_
    · array_get_dec; rfl
    · exact ⟨[], _, none, trivial, rfl⟩
    · rintro i l r hi ⟨vs, rest, y, hf, rfl⟩
      have hl := hl l (List.mem_of_getElem? hi)
      have hlen := hf.len
      rw [List.length_take] at hlen
      unfold Lp_l_row_1
      array_get_dec
      refine ⟨vs ++ [rest % l], rest / l, some (.int l), ?_, by simp [iL]⟩
      rw [take_snoc hi]
      exact hf.snoc (Int.emod_nonneg _ (by omega)) (Int.emod_lt_of_pos _ hl.1)
    · rintro r ⟨vs, rest, y, hf, rfl⟩
      rw [List.take_length] at hf
      array_get_dec
      exact ⟨vs, rfl, hf⟩
  · array_get_dec
    refine ss_rng ls.length (fun i r => ∃ vs y z, Fit vs (ls.take i) ∧ r = [some (.int c), some (iL ls), some (iL vs), none, none, y, z]) ?_ (by omega) ?_ ?_ ?_
    · array_get_dec
      rw [List.length_map]
    · exact ⟨[], none, none, trivial, rfl⟩
    · rintro k r hk ⟨vs, y, z, hf, rfl⟩
      have hlen := hf.len
      rw [List.length_take] at hlen
      have hg : ls[k]? = some ls[k] := List.getElem?_eq_getElem hk
      have hl := hl ls[k] (List.getElem_mem hk)
      generalize ls[k] = l at hg hl
      unfold Lp_l_row_2
      array_get_dec
      refine rs_ixL (d := .int l) (atI_nat (by rw [List.getElem?_map, hg]; rfl)) ?_
      array_get_dec
      refine ⟨vs ++ [_], _, _, ?_, by simp [iL]; exact ⟨rfl, rfl, rfl⟩⟩
      rw [take_snoc hg]
      exact hf.snoc (Int.emod_nonneg _ (by omega)) (Int.emod_lt_of_pos _ hl.1)
    · rintro r ⟨vs, y, z, hf, rfl⟩
      rw [List.take_length] at hf
      array_get_dec
      exact ⟨vs, rfl, hf⟩
end
section
theorem row_of (c : Int) (ls : List Int) {Q : D → Prop} {E : Str → List Str → List D → Prop} (hl : ∀ l ∈ ls, 0 < l ∧ l < 4611686018427387904) (hn : ls.length < 10000) (q : ∀ vs, Fit vs ls → Q (iL vs)) : Rs (F_l_row [.int c, iL ls]) Q E := (row_sp c ls hl hn).imp fun d ⟨vs, e, h⟩ => by subst e; exact q vs h
theorem same_int (n : Nat) (i : Int) : F_l_same (n + 1) [.int i, .int i] = .ok (.bl true) := Rs.eq (by
  refine rs_run ?_
  unfold Fb_l_same
  sizeOf_list_dec
  simp)
theorem same_str (n : Nat) (l : List Nat) : F_l_same (n + 1) [.str (Sg l), .str (Sg l)] = .ok (.bl true) := Rs.eq (by
  refine rs_run ?_
  unfold Fb_l_same
  sizeOf_list_dec
  simp)
theorem same_lst (n : Nat) (ds : List D) (hl : ds.length ≤ 10000) (h : ∀ d ∈ ds, F_l_same n [d, d] = .ok (.bl true)) : F_l_same (n + 1) [.lst ds, .lst ds] = .ok (.bl true) := Rs.eq (by
  refine rs_run ?_
  unfold Fb_l_same
  sizeOf_list_dec
  refine ss_rng ds.length (fun i r => ∃ x, r = [some (.lst ds), some (.lst ds), x]) (by array_get_dec; rfl) (by omega) ⟨none, rfl⟩ ?_ ?_
  · rintro i r hi ⟨x, rfl⟩
    show Ss (Lp_l_same_1 (F_l_same n) [some (.lst ds), some (.lst ds), some (.int (i : Int))]) _ _ _ _ _
    unfold Lp_l_same_1
    array_get_dec
    refine rs_ixL (atI_nat (List.getElem?_eq_getElem hi)) ?_
    array_get_dec
    refine rs_ixL (atI_nat (List.getElem?_eq_getElem hi)) ?_
    array_get_dec
    refine Rs.of (h _ (List.getElem_mem hi)) ?_
    sizeOf_list_dec
    exact ⟨_, rfl⟩
  · rintro r ⟨x, rfl⟩
    array_get_dec
    rfl)
theorem same_tup (n : Nat) (ds : List D) (hl : ds.length ≤ 10000) (h : ∀ d ∈ ds, F_l_same n [d, d] = .ok (.bl true)) : F_l_same (n + 1) [.tup ds, .tup ds] = .ok (.bl true) := Rs.eq (by
  refine rs_run ?_
  unfold Fb_l_same
  sizeOf_list_dec
  refine ss_rng ds.length (fun i r => ∃ x, r = [some (.tup ds), some (.tup ds), x]) (by array_get_dec; rfl) (by omega) ⟨none, rfl⟩ ?_ ?_
  · rintro i r hi ⟨x, rfl⟩
    show Ss (Lp_l_same_1 (F_l_same n) [some (.tup ds), some (.tup ds), some (.int (i : Int))]) _ _ _ _ _
    unfold Lp_l_same_1
    array_get_dec
    refine rs_ixT (atI_nat (List.getElem?_eq_getElem hi)) ?_
    array_get_dec
    refine rs_ixT (atI_nat (List.getElem?_eq_getElem hi)) ?_
    array_get_dec
    refine Rs.of (h _ (List.getElem_mem hi)) ?_
    sizeOf_list_dec
    exact ⟨_, rfl⟩
  · rintro r ⟨x, rfl⟩
    array_get_dec
    rfl)
end
section
def abc : List Nat := [97, 98, 99, 100, 101, 102, 103, 104, 105, 106, 107, 108, 109, 110, 111, 112, 113, 114, 115, 116, 117, 118, 119, 120, 121, 122]
def okc (k : Int) (i : Nat) (n : Nat) : Bool := decide (n ∈ abc) || decide (n = 63) || (decide (n = 46) && decide ((i : Int) = k))
def isP (a : List Nat) (k : Int) : Bool := decide (a.length ≤ 3) && (List.range a.length).all fun i => okc k i (a.getD i 0)
theorem numdG : ∀ (ds : List D) (n i : Nat) (e : D), (numd n ds)[i]? = some e → ∃ d, ds[i]? = some d ∧ e = .tup [.int ((n + i : Nat) : Int), d]
  | [], n, i, e, h => by simp [numd] at h
  | d :: ds, n, 0, e, h => by simp [numd] at h; exact ⟨d, by simp, h.symm⟩
  | d :: ds, n, i + 1, e, h => by
    obtain ⟨x, h1, h2⟩ := numdG ds (n + 1) i e (by simpa [numd] using h)
    exact ⟨x, by simpa using h1, by rw [h2, show n + 1 + i = n + (i + 1) from by omega]⟩
theorem getD_of {a : List Nat} {i n : Nat} (h : a[i]? = some n) : a.getD i 0 = n := by rw [List.getD_eq_getElem?_getD, h]; rfl
theorem isP_of {a : List Nat} {k : Int} (h3 : a.length ≤ 3) (hI : ∀ i, i < a.length → okc k i (a.getD i 0) = true) : isP a k = true := by
  unfold isP
  rw [Bool.and_eq_true]
  exact ⟨decide_eq_true h3, List.all_eq_true.mpr fun i hi => hI i (List.mem_range.mp hi)⟩
theorem isP_no1 {a : List Nat} {k : Int} {i n : Nat} (hi : i < a.length) (hn : a[i]? = some n) (h : okc k i n = false) : isP a k = false := by
  unfold isP
  rw [Bool.and_eq_false_iff]
  refine .inr ?_
  rw [List.all_eq_false]
  exact ⟨i, by simpa using hi, by rw [getD_of hn, h]; decide⟩
theorem isP_long {a : List Nat} {k : Int} (h : ¬ a.length ≤ 3) : isP a k = false := by
  unfold isP
  rw [decide_eq_false h]; rfl
theorem is_part_eq (a : List Nat) (k : Int) (ha : a.length ≤ 1000) : F_is_part [.str (Sg a), .int k] = .ok (.bl (isP a k)) := Rs.eq (by
  refine rs_run ?_
  unfold Fb_is_part
  array_get_dec
  refine ⟨fun h => ?_, fun h => ?_⟩
  · have h := of_decide_eq_true h
    array_get_dec
    rw [isP_long (by omega)]
  · have h := of_decide_eq_false h
    have h3 : a.length ≤ 3 := by omega
    array_get_dec
    refine ss_for (fun j r => ∃ x y, (∀ i, i < j → okc k i (a.getD i 0) = true) ∧ r = [some (.str (Sg a)), some (.int k), x, y]) ?_
    array_get_dec
    refine ⟨⟨none, none, fun i h => absurd h (by omega), rfl⟩, ?_, ?_⟩
    · rintro i d r hd ⟨x, y, hI, rfl⟩
      obtain ⟨e, he, rfl⟩ := numdG _ _ _ _ hd
      rw [List.getElem?_map] at he
      cases hn : a[i]? with
      | none => rw [hn] at he; cases he
      | some n =>
        rw [hn] at he; cases he
        have hi : i < a.length := (List.getElem?_eq_some_iff.mp hn).1
        refine ⟨_, rfl, ?_⟩
        unfold Lp_is_part_1
        array_get_dec
        refine ⟨fun h => ?_, fun h => ?_⟩
        · array_get_dec
          have : okc k i n = false := by simp [okc, abc] at h ⊢; exact ⟨⟨h.1, h.2.1⟩, fun z => h.2.2.resolve_left fun k => k z⟩
          rw [isP_no1 hi hn this]
        · array_get_dec
          refine ⟨_, _, fun j hj => ?_, rfl⟩
          by_cases hji : j < i
          · exact hI j hji
          · have : j = i := by omega
            subst this
            rw [getD_of hn]
            unfold okc
            rw [show decide (n ∈ abc) = decide (n ∈ [97, 98, 99, 100, 101, 102, 103, 104, 105, 106, 107, 108, 109, 110, 111, 112, 113, 114, 115, 116, 117, 118, 119, 120, 121, 122]) from rfl]
            generalize decide (n ∈ [97, 98, 99, 100, 101, 102, 103, 104, 105, 106, 107, 108, 109, 110, 111, 112, 113, 114, 115, 116, 117, 118, 119, 120, 121, 122]) = q at h ⊢
            cases q
            · simp at h ⊢
              by_cases h2 : n = 63
              · exact .inl h2
              · exact .inr (h h2)
            · rfl
    · rintro r ⟨x, y, hI, rfl⟩
      array_get_dec
      rw [isP_of h3 fun i hi => hI i (by rw [numd_len, List.length_map]; exact hi)])
theorem l_is_part_eq (a : List Nat) (k : Int) (ha : a.length ≤ 1000) : F_l_is_part [.str (Sg a), .int k] = .ok (.bl (isP a k)) := Rs.eq (by
  refine rs_run ?_
  unfold Fb_l_is_part
  array_get_dec
  refine ⟨fun h => ?_, fun h => ?_⟩
  · have h := of_decide_eq_true h
    array_get_dec
    rw [isP_long (by omega)]
  · have h := of_decide_eq_false h
    have h3 : a.length ≤ 3 := by omega
    array_get_dec
    refine ss_rng a.length (fun j r => ∃ x, (∀ i, i < j → okc k i (a.getD i 0) = true) ∧ r = [some (.str (Sg a)), some (.int k), x]) (by array_get_dec; rfl) (by omega) ⟨none, fun i h => absurd h (by omega), rfl⟩ ?_ ?_
    · rintro i r hi ⟨x, hI, rfl⟩
      show Ss (Lp_l_is_part_1 [some (.str (Sg a)), some (.int k), some (.int (i : Int))]) _ _ _ _ _
      have hn : a[i]? = some (a.getD i 0) := by rw [List.getD_eq_getElem?_getD, List.getElem?_eq_getElem hi]; rfl
      have ix : ∀ {Q : D → Prop} {E : Str → List Str → List D → Prop}, Q (.str (Sg [a.getD i 0])) → Rs (ixD (.str (Sg a)) (.int (i : Int))) Q E := fun q => rs_ixS ⟨Nat.le_trans (by omega) sz5, atI_nat hn⟩ q
      have keep : okc k i (a.getD i 0) = true → ∀ j, j < i + 1 → okc k j (a.getD j 0) = true := fun ho j hj => by
        by_cases hji : j < i
        · exact hI j hji
        · have : j = i := by omega
          subst this
          exact ho
      unfold Lp_l_is_part_1
      array_get_dec
      refine ix ?_
      array_get_dec
      refine ⟨fun hb => ?_, fun hb => ?_⟩
      · array_get_dec
        refine ⟨_, keep ?_, rfl⟩
        unfold okc
        generalize a.getD i 0 = n at hb
        simp at hb ⊢
        exact .inr hb
      · array_get_dec
        refine ix ?_
        array_get_dec
        refine ⟨fun hc => ?_, fun hc => ?_⟩
        · array_get_dec
          rw [isP_no1 hi hn]
          unfold okc
          generalize a.getD i 0 = n at hb hc
          simp [abc] at hb hc ⊢
          omega
        · array_get_dec
          refine ⟨_, keep ?_, rfl⟩
          unfold okc
          generalize a.getD i 0 = n at hb hc
          simp [abc] at hb hc ⊢
          omega
    · rintro r ⟨x, hI, rfl⟩
      array_get_dec
      rw [isP_of h3 hI])
theorem isP_dash {a : List Nat} {k : Int} (hm : 45 ∈ a) : isP a k = false := by
  obtain ⟨i, hi, h⟩ := List.getElem_of_mem hm
  refine isP_no1 hi (List.getElem?_eq_getElem hi) ?_
  rw [h]
  simp [okc, abc]
def brk (c : Nat) : List Nat → Option (List Nat × List Nat)
  | [] => none
  | x :: r => if x = c then some ([], r) else match brk c r with
    | some (p, q) => some (x :: p, q)
    | none => none
theorem brk_none {c : Nat} : ∀ {a : List Nat}, brk c a = none → c ∉ a
  | [], _ => by simp
  | x :: r, h => by
    unfold brk at h
    by_cases hx : x = c
    · rw [if_pos hx] at h; cases h
    · rw [if_neg hx] at h
      cases hr : brk c r with
      | none =>
        have := brk_none hr
        simp [this, Ne.symm hx]
      | some y => rw [hr] at h; cases h
theorem brk_some {c : Nat} : ∀ {a p q : List Nat}, brk c a = some (p, q) → a = p ++ c :: q ∧ c ∉ p
  | [], _, _, h => by cases h
  | x :: r, p, q, h => by
    unfold brk at h
    by_cases hx : x = c
    · rw [if_pos hx] at h; cases h
      subst hx
      simp
    · rw [if_neg hx] at h
      cases hr : brk c r with
      | none => rw [hr] at h; cases h
      | some y =>
        obtain ⟨p', q'⟩ := y
        rw [hr] at h
        cases h
        obtain ⟨h1, h2⟩ := brk_some hr
        exact ⟨by rw [h1]; rfl, by simp [h2, Ne.symm hx]⟩
theorem at_one {a : List Nat} {c i : Nat} : PySem.StrLaws.At (Sg a) (Sg [c]) (Sg a).length i ↔ a[i]? = some c := by
  unfold PySem.StrLaws.At
  rw [PySem.StrLaws.subAt_eq, ST_len, ST_len]
  show (i + 1 ≤ a.length ∧ ((a.drop i).take 1 == [c]) = true) ↔ _
  constructor
  · rintro ⟨h1, h2⟩
    have h2 := eq_of_beq h2
    rw [List.getElem?_eq_getElem (by omega)]
    rw [List.drop_eq_getElem_cons (by omega), List.take_succ_cons, List.take_zero] at h2
    exact congrArg some (List.cons.inj h2).1
  · intro h
    obtain ⟨h1, h2⟩ := List.getElem?_eq_some_iff.mp h
    refine ⟨h1, ?_⟩
    rw [List.drop_eq_getElem_cons h1, h2]
    simp
theorem find_brk {c : Nat} {a : List Nat} : PySem.Txt.find (Sg a) (Sg [c]) = match brk c a with
    | none => -1
    | some (p, _) => (p.length : Int) := by
  rcases PyProof.Rows.find_whole (Sg a) (Sg [c]) with ⟨h1, h2⟩ | ⟨i, h1, h2, h3⟩
  · rw [h1]
    cases hb : brk c a with
    | none => rfl
    | some y =>
      obtain ⟨p, q⟩ := y
      obtain ⟨e, hp⟩ := brk_some hb
      refine absurd (at_one.mpr ?_) (h2 p.length)
      rw [e, List.getElem?_append_right (by omega)]
      simp
  · rw [h1]
    have h2 := at_one.mp h2
    cases hb : brk c a with
    | none => exact absurd (List.mem_of_getElem? h2) (brk_none hb)
    | some y =>
      obtain ⟨p, q⟩ := y
      obtain ⟨e, hp⟩ := brk_some hb
      dsimp only
      have hi : i = p.length := by
        by_cases h : i < p.length
        · rw [e, List.getElem?_append_left h] at h2
          exact absurd (List.mem_of_getElem? h2) hp
        · by_cases h' : p.length < i
          · refine absurd (at_one.mpr ?_) (h3 p.length h')
            rw [e, List.getElem?_append_right (by omega)]
            simp
          · omega
      rw [hi]
def fndI (a : List Nat) (c : Nat) : Int := match brk c a with
    | none => -1
    | some (p, _) => (p.length : Int)
theorem rs_find {a : List Nat} {c : Nat} {Q : D → Prop} {E : Str → List Str → List D → Prop} (q : Q (.int (fndI a c))) : Rs (findD (.str (Sg a)) (.str (Sg [c]))) Q E := by
  show Q (D.int (PySem.Txt.find (Sg a) (Sg [c])))
  rw [find_brk]
  exact q
def stp (l : List Nat) : List Nat := if endB l [32, 110, 111] then l.take (l.length - 3) else l
def wB (l : List Nat) : Bool := match brk 45 (stp l) with
  | none => false
  | some (p, q) => isP p 0 && isP q ((q.length : Int) - 1)
theorem endB_drop (l : List Nat) : decide (l.drop (l.length - 3) = [32, 110, 111]) = endB l [32, 110, 111] := by
  unfold endB
  show _ = (decide (3 ≤ l.length) && decide (l.drop (l.length - 3) = [32, 110, 111]))
  by_cases h : 3 ≤ l.length
  · rw [decide_eq_true h]; rfl
  · rw [decide_eq_false h, Bool.false_and]
    refine decide_eq_false fun z => ?_
    have := congrArg List.length z
    rw [List.length_drop] at this
    simp at this
    omega
theorem stp_len (l : List Nat) : (stp l).length ≤ l.length := by
  unfold stp
  split
  · rw [List.length_take]; omega
  · exact Nat.le_refl _
theorem written_eq (l : List Nat) (hl : l.length ≤ 900) : F_l_is_written [.str (Sg l)] = .ok (.bl (wB l)) := Rs.eq (by
  refine rs_run ?_
  unfold Fb_l_is_written
  array_get_dec
  rw [show (-3 : Int) = -((3 : Nat) : Int) from rfl, cut_last l 3 (by omega), endB_drop]
  refine ss_join (fun r => r = [some (.str (Sg (stp l))), none, none]) ?_ ?_ ?_
  · intro he
    array_get_dec
    rw [show (-3 : Int) = -((3 : Nat) : Int) from rfl, cut_back l 3 (by omega)]
    show [some (D.str (Sg (l.take (l.length - 3)))), none, none] = _
    unfold stp
    rw [if_pos he]
  · intro he
    array_get_dec
    show [some (D.str (Sg l)), none, none] = _
    unfold stp
    rw [he]
    rfl
  · rintro r rfl
    have ht := stp_len l
    refine ss_seq (ss_set (rs_str (rs_var rfl (rs_asS (rs_c ?_)))))
    refine rs_find ?_
    unfold wB
    generalize stp l = t at ht
    cases hb : brk 45 t with
    | none =>
      rw [show fndI t 45 = -1 from by unfold fndI; rw [hb]]
      show Ss _ _ _ _ _ _
      array_get_dec
      refine ⟨fun _ => ?_, fun z => absurd z (by decide)⟩
      array_get_dec
      rfl
    | some y =>
      obtain ⟨p, q⟩ := y
      obtain ⟨e, hp⟩ := brk_some hb
      have hlen : t.length = p.length + q.length + 1 := by rw [e]; simp; omega
      rw [show fndI t 45 = (p.length : Int) from by unfold fndI; rw [hb]]
      show Ss _ _ _ _ _ _
      array_get_dec
      refine ⟨fun z => absurd (of_decide_eq_true z) (by omega), fun _ => ?_⟩
      array_get_dec
      rw [show ((p.length : Int) + 1) = ((p.length + 1 : Nat) : Int) from rfl, cut_drop]
      rw [show t.drop (p.length + 1) = q from by rw [e]; simp]
      array_get_dec
      rw [cut_take, show t.take p.length = p from by rw [e]; simp]
      refine Rs.of (l_is_part_eq p 0 (by omega)) ?_
      array_get_dec
      refine Rs.of (l_is_part_eq q _ (by omega)) ?_
      array_get_dec
      rfl)
theorem spc_brk {t p q : List Nat} (hb : brk 45 t = some (p, q)) : spc 45 t = p :: spc 45 q := by
  obtain ⟨rfl, hp⟩ := brk_some hb
  rw [spc, spl_pref 45 p [] _ hp, List.nil_append, spl_cons, if_pos rfl]
theorem spc_ne (c : Nat) (a : List Nat) : spc c a ≠ [] := by
  cases hb : brk c a with
  | none => rw [spc_none (brk_none hb)]; simp
  | some y =>
    obtain ⟨p, q⟩ := y
    obtain ⟨rfl, hp⟩ := brk_some hb
    rw [spc, spl_pref c p [] _ hp, List.nil_append, spl_cons, if_pos rfl]
    simp
def jD (l : List Nat) : D := match brk 45 (stp l) with
  | none => .non
  | some (p, q) => .tup [.str (Sg p), .str (Sg q), .bl (endB l [32, 110, 111])]
theorem read_sp (l : List Nat) (hl : l.length ≤ 900) : Rs (F_read_joint [.str (Sg l)]) (fun d => wB l = true ∧ d = jD l) (fun n ns vs => wB l = false ∧ n = ("BadJoint" : Str) ∧ ns = [("text" : Str)] ∧ vs = [.str (Sg l)]) := by
  refine rs_run ?_
  unfold Fb_read_joint
  array_get_dec
  refine ss_join (fun r => r = [some (.str (Sg l)), some (.str (Sg (stp l))), some (.bl (endB l [32, 110, 111])), none, none]) ?_ ?_ ?_
  · intro he
    array_get_dec
    rw [show (-3 : Int) = -((3 : Nat) : Int) from rfl, cut_back l 3 (by omega)]
    show [some (.str (Sg l)), some (D.str (Sg (l.take (l.length - 3)))), _, none, none] = _
    unfold stp
    rw [if_pos he]
  · intro he
    array_get_dec
    show [some (.str (Sg l)), some (D.str (Sg l)), _, none, none] = _
    unfold stp
    rw [he]
    rfl
  · rintro r rfl
    have ht := stp_len l
    unfold wB jD
    generalize stp l = t at ht
    generalize endB l [32, 110, 111] = fb
    have bad : ∀ (r : Rho) (w : Bool) (z : D), w = false → r[0]? = some (some (.str (Sg l))) → Ss (raiF "BadJoint" [("text" : Str)] false (dCons (dVar 0) dNil) r) (fun _ => w = true ∧ D.non = z) (fun d => w = true ∧ d = z) nR nR (fun _ n ns vs => w = false ∧ n = ("BadJoint" : Str) ∧ ns = [("text" : Str)] ∧ vs = [.str (Sg l)]) := fun r w z hw h0 =>
      ss_raise (rs_cons (rs_var h0 (rs_nil ⟨rfl, hw, rfl, rfl, rfl⟩)))
    refine ss_seq (ss_match2 (ds := (spc 45 t).map fun l => .str (Sg l)) ?_)
    refine rs_str (rs_var rfl (rs_asS (rs_c (rs_split ⟨by decide, Nat.le_trans (by omega) sz5⟩ ⟨rfl, ?_⟩))))
    cases hb : brk 45 t with
    | none =>
      refine .inr ⟨by rw [spc_none (brk_none hb)]; simp, ?_⟩
      exact bad _ _ _ rfl rfl
    | some y =>
      obtain ⟨p, q⟩ := y
      obtain ⟨e, hp⟩ := brk_some hb
      have hlen : t.length = p.length + q.length + 1 := by rw [e]; simp; omega
      rw [spc_brk hb]
      by_cases hq : 45 ∈ q
      · refine .inr ⟨?_, ?_⟩
        · have h2 : ∃ x y, spc 45 q = x :: y ∧ y ≠ [] := by
            cases hc : brk 45 q with
            | none => exact absurd hq (brk_none hc)
            | some z =>
              obtain ⟨p', q'⟩ := z
              exact ⟨p', _, spc_brk hc, spc_ne _ _⟩
          obtain ⟨x, y, h2, h3⟩ := h2
          rw [h2]
          cases y with
          | nil => exact absurd rfl h3
          | cons y ys => simp
        · refine bad _ _ _ ?_ rfl
          dsimp only
          rw [isP_dash hq, Bool.and_false]
      · refine .inl ⟨.str (Sg p), .str (Sg q), by rw [spc_none hq]; rfl, ?_⟩
        show Ss _ _ _ _ _ _
        dsimp only
        array_get_dec
        refine Rs.of (is_part_eq p 0 (by omega)) ?_
        array_get_dec
        refine Rs.of (is_part_eq q _ (by omega)) ?_
        array_get_dec
        refine ⟨fun hw => ?_, fun hw => ?_⟩
        · array_get_dec
          exact ⟨hw, rfl⟩
        · refine ss_nx (bad _ _ _ hw ?_)
          rfl
end
section
def Low (a : List Nat) : Prop := ∀ n ∈ a, n ∈ abc
theorem abc_at {v : Int} (h0 : 0 ≤ v) (h1 : v < 26) : ∃ n, atI abc v = some n ∧ n ∈ abc := by
  obtain ⟨k, rfl⟩ : ∃ k : Nat, v = (k : Int) := ⟨v.toNat, by omega⟩
  have hk : k < abc.length := by show k < 26; omega
  exact ⟨abc[k], atI_nat (List.getElem?_eq_getElem hk), List.getElem_mem hk⟩
theorem abc_ix {v : Int} {Q : D → Prop} {E : Str → List Str → List D → Prop} (h0 : 0 ≤ v) (h1 : v < 26) (q : ∀ n, n ∈ abc → Q (.str (Sg [n]))) : Rs (ixD (.str (Sg abc)) (.int v)) Q E := by
  obtain ⟨n, h2, h3⟩ := abc_at h0 h1
  exact rs_ixS ⟨by decide, h2⟩ (q n h3)
theorem sort_mem {xs : List Str} {z : Str} (h : z ∈ sortS xs) : z ∈ xs := (List.mergeSort_perm xs leS).mem_iff.mp h
theorem sort_len (xs : List Str) : (sortS xs).length = xs.length := (List.mergeSort_perm xs leS).length_eq
theorem rs_sortS {Q : D → Prop} {E : Str → List Str → List D → Prop} {xs : List (List Nat)} (h : xs.length < 64) (q : ∀ ys : List (List Nat), ys.length = xs.length → (∀ y ∈ ys, y ∈ xs) → Q (.lst (ys.map fun l => .str (Sg l)))) : Rs (g1 sortSD [.lst (xs.map fun l => .str (Sg l))]) Q E := by
  show Rs (match allStr (xs.map fun l => .str (Sg l)) with | some zs => guard (zs.length < 64) (.ok (.lst (strsD (sortS zs)))) | none => .bad) Q E
  rw [show allStr (xs.map fun l => .str (Sg l)) = some (xs.map Sg) from allStr_map id xs]
  refine rs_guard (by rw [List.length_map]; exact h) ?_
  have e : (D.lst (strsD (sortS (xs.map Sg)))) = D.lst (((sortS (xs.map Sg)).map TL.tl).map fun l => .str (Sg l)) := by
    unfold strsD
    rw [List.map_map]
    rfl
  show Q _
  rw [e]
  refine q _ (by rw [List.length_map, sort_len, List.length_map]) fun y hy => ?_
  obtain ⟨z, hz, rfl⟩ := List.mem_map.mp hy
  obtain ⟨x, hx, rfl⟩ := List.mem_map.mp (sort_mem hz)
  exact hx
theorem letters_sp (c : Int) : Rs (F_l_letters [.int c]) (fun d => ∃ l, d = .str (Sg l) ∧ Low l ∧ 1 ≤ l.length ∧ l.length ≤ 3) nE := by
  refine rs_run ?_
  unfold Fb_l_letters
  rw [show ([97, 98, 99, 100, 101, 102, 103, 104, 105, 106, 107, 108, 109, 110, 111, 112, 113, 114, 115, 116, 117, 118, 119, 120, 121, 122] : List Nat) = abc from rfl]
  array_get_dec
  refine row_of c [12, 26, 26, 26] (by decide) (by decide) fun vs hv => ?_
  obtain ⟨v0, _, rfl, a0, b0, hv⟩ := hv.cons
  obtain ⟨v1, _, rfl, a1, b1, hv⟩ := hv.cons
  obtain ⟨v2, _, rfl, a2, b2, hv⟩ := hv.cons
  obtain ⟨v3, _, rfl, a3, b3, hv⟩ := hv.cons
  cases hv.nil
  array_get_dec
  refine ss_join (fun r => ∃ m : Nat, 1 ≤ m ∧ m ≤ 3 ∧ r = [some (.int c), some (iL [v0, v1, v2, v3]), some (.int (m : Int)), none, none, none, none]) ?_ ?_ ?_
  · intro h
    have h := of_decide_eq_true h
    array_get_dec
    refine ⟨(1 + 2 * v0).toNat, by omega, by omega, ?_⟩
    rw [show (((1 + 2 * v0).toNat : Nat) : Int) = 1 + 2 * v0 from by omega]
    rfl
  · intro h
    array_get_dec
    exact ⟨2, by omega, by omega, rfl⟩
  · rintro r ⟨m, m1, m3, rfl⟩
    array_get_dec
    refine ss_for (fun i r => i ≤ m ∧ ∃ l x, Low l ∧ l.length ≤ i ∧ (0 < i → 0 < l.length) ∧ r = [some (.int c), some (iL [v0, v1, v2, v3]), some (.int (m : Int)), some (.str (Sg abc)), some (.str (Sg l)), x, none]) ?_
    array_get_dec
    refine rs_lcS (fun i : Nat => .int (i : Int)) (fun l : List Nat => .str (Sg l)) (fun _ _ l => ∃ n, l = [n] ∧ n ∈ abc) (List.range m) ?_ (by rw [List.length_range]; exact Nat.le_trans (by omega) sz5) ?_ ?_
    · refine rs_rngC ?_ (by omega)
      array_get_dec; rfl
    · intro i x hx
      have hi : x < m := List.mem_range.mp (List.mem_of_getElem? hx)
      refine ⟨_, rfl, rfl, ?_⟩
      array_get_dec
      have : ∃ v, atI [D.int v0, D.int v1, D.int v2, D.int v3] (1 + (x : Int)) = some (.int v) ∧ 0 ≤ v ∧ v < 26 := by
        match x, hi with
        | 0, _ => exact ⟨v1, rfl, a1, b1⟩
        | 1, _ => exact ⟨v2, rfl, a2, b2⟩
        | 2, _ => exact ⟨v3, rfl, a3, b3⟩
        | k + 3, h => omega
      obtain ⟨v, e1, e2, e3⟩ := this
      refine rs_ixL e1 ?_
      exact abc_ix e2 e3 fun n hn => ⟨[n], rfl, n, rfl, hn⟩
    · intro ys h1 h2
      rw [List.length_range] at h1
      refine rs_nil (rs_sortS (by omega) fun zs z1 z2 => rs_itsL ⟨⟨by omega, [], none, fun n hn => (by cases hn), by simp, by omega, rfl⟩, ?_, ?_⟩)
      · rintro i d r hd ⟨hi, l, x, hl, q1, q2, rfl⟩
        rw [List.getElem?_map] at hd
        cases hy : zs[i]? with
        | none => rw [hy] at hd; cases hd
        | some y =>
          rw [hy] at hd; cases hd
          obtain ⟨k, hk, e⟩ := List.getElem_of_mem (z2 y (List.mem_of_getElem? hy))
          obtain ⟨n, rfl, hn⟩ := h2 k k y (by rw [List.getElem?_range (by omega)]) (by rw [List.getElem?_eq_getElem hk, e])
          have hi : i < zs.length := (List.getElem?_eq_some_iff.mp hy).1
          refine ⟨_, rfl, ?_⟩
          unfold Lp_l_letters_1
          array_get_dec
          refine ⟨fun h => ?_, fun h => ?_⟩
          · array_get_dec
            refine ⟨by omega, l ++ [n], _, fun k hk => ?_, by simp; omega, fun _ => by simp, rfl⟩
            rcases List.mem_append.mp hk with hk | hk
            · exact hl k hk
            · cases List.mem_singleton.mp hk; exact hn
          · array_get_dec
            have hm : n ∈ l := by simpa using h
            exact ⟨by omega, l, _, hl, by omega, fun _ => List.length_pos_of_mem hm, rfl⟩
      · rintro r ⟨hi, l, x, hl, q1, q2, rfl⟩
        array_get_dec
        refine ⟨l, rfl, hl, q2 (by simp; omega), by omega⟩
theorem joint_sp (c s : Int) (l : List Nat) (hl : Low l) (l1 : 1 ≤ l.length) (l3 : l.length ≤ 3) : Rs (F_l_joint [.int c, .str (Sg l), .int s]) (fun d => ∃ p q f, d = .tup [.str (Sg p), .str (Sg q), .bl f] ∧ p.length ≤ 3 ∧ q.length ≤ 3) nE := by
  refine rs_run ?_
  unfold Fb_l_joint
  rw [show ([97, 98, 99, 100, 101, 102, 103, 104, 105, 106, 107, 108, 109, 110, 111, 112, 113, 114, 115, 116, 117, 118, 119, 120, 121, 122] : List Nat) = abc from rfl]
  array_get_dec
  refine row_of c [4, 4, 7, 7, 7, 7, 7, 7, 4, 4, 3, 26] (by decide) (by decide) fun vs hv => ?_
  obtain ⟨v0, _, rfl, a0, b0, hv⟩ := hv.cons
  obtain ⟨v1, _, rfl, a1, b1, hv⟩ := hv.cons
  obtain ⟨v2, _, rfl, a2, b2, hv⟩ := hv.cons
  obtain ⟨v3, _, rfl, a3, b3, hv⟩ := hv.cons
  obtain ⟨v4, _, rfl, a4, b4, hv⟩ := hv.cons
  obtain ⟨v5, _, rfl, a5, b5, hv⟩ := hv.cons
  obtain ⟨v6, _, rfl, a6, b6, hv⟩ := hv.cons
  obtain ⟨v7, _, rfl, a7, b7, hv⟩ := hv.cons
  obtain ⟨v8, _, rfl, a8, b8, hv⟩ := hv.cons
  obtain ⟨v9, _, rfl, a9, b9, hv⟩ := hv.cons
  obtain ⟨v10, _, rfl, a10, b10, hv⟩ := hv.cons
  obtain ⟨v11, _, rfl, a11, b11, hv⟩ := hv.cons
  cases hv.nil
  obtain ⟨n0, rfl⟩ : ∃ n : Nat, v0 = n := ⟨v0.toNat, by omega⟩
  obtain ⟨n1, rfl⟩ : ∃ n : Nat, v1 = n := ⟨v1.toNat, by omega⟩
  have t4 : (cutL (l ++ l ++ (l ++ l)) none (some 4)) = (l ++ l ++ (l ++ l)).take 4 := cut_take _ 4
  have e4 : ((l ++ l ++ (l ++ l)).take 4).length ≤ 4 := by rw [List.length_take]; omega
  array_get_dec
  rw [t4]
  array_get_dec
  refine abc_ix a11 b11 fun nx hx => ?_
  have hm : ∀ n ∈ (l ++ l ++ (l ++ l)).take 4 ++ [63, 63] ++ [nx], n ∈ abc ∨ n = 63 := fun n hn => by
    rw [List.mem_append, List.mem_append] at hn
    rcases hn with (hn | hn) | hn
    · have := List.mem_of_mem_take hn
      refine .inl (hl n ?_)
      simpa using this
    · simp at hn; exact .inr hn
    · simp at hn; subst hn; exact .inl hx
  have hml : ((l ++ l ++ (l ++ l)).take 4 ++ [63, 63] ++ [nx]).length = 7 := by
    simp only [List.length_append, List.length_take, List.length_cons, List.length_nil]; omega
  array_get_dec
  generalize (l ++ l ++ (l ++ l)).take 4 ++ [63, 63] ++ [nx] = menu at hm hml
  refine rs_lcS (fun i : Nat => .int (i : Int)) (fun n : Nat => .str (Sg [n])) (fun _ _ n => n ∈ menu) (List.range n0) ?_ (by rw [List.length_range]; exact Nat.le_trans (by omega) sz5) ?_ ?_
  · refine rs_rngC ?_ (by omega)
    array_get_dec; rfl
  · intro i x hx
    have hi : x < n0 := List.mem_range.mp (List.mem_of_getElem? hx)
    refine ⟨_, rfl, rfl, ?_⟩
    array_get_dec
    have : ∃ v, atI [D.int (n0 : Int), D.int (n1 : Int), D.int v2, D.int v3, D.int v4, D.int v5, D.int v6, D.int v7, D.int v8, D.int v9, D.int v10, D.int v11] (2 + (x : Int)) = some (.int v) ∧ 0 ≤ v ∧ v < 7 := by
      match x, hi with
      | 0, _ => exact ⟨v2, rfl, a2, b2⟩
      | 1, _ => exact ⟨v3, rfl, a3, b3⟩
      | 2, _ => exact ⟨v4, rfl, a4, b4⟩
      | k + 3, h => omega
    obtain ⟨v, e1, e2, e3⟩ := this
    refine rs_ixL e1 ?_
    exact ix_str (by omega) (by omega) fun n _ hn => ⟨n, rfl, hn⟩
  intro p1 p1l p1m
  rw [List.length_range] at p1l
  have p1m : ∀ n ∈ p1, n ∈ menu := fun n hn => by
    obtain ⟨k, hk, rfl⟩ := List.getElem_of_mem hn
    exact p1m k k _ (by rw [List.getElem?_range (by omega)]) (List.getElem?_eq_getElem hk)
  refine rs_joinC (by omega) ?_
  array_get_dec
  refine rs_lcS (fun i : Nat => .int (i : Int)) (fun n : Nat => .str (Sg [n])) (fun _ _ n => n ∈ menu) (List.range n1) ?_ (by rw [List.length_range]; exact Nat.le_trans (by omega) sz5) ?_ ?_
  · refine rs_rngC ?_ (by omega)
    array_get_dec; rfl
  · intro i x hx
    have hi : x < n1 := List.mem_range.mp (List.mem_of_getElem? hx)
    refine ⟨_, rfl, rfl, ?_⟩
    array_get_dec
    have : ∃ v, atI [D.int (n0 : Int), D.int (n1 : Int), D.int v2, D.int v3, D.int v4, D.int v5, D.int v6, D.int v7, D.int v8, D.int v9, D.int v10, D.int v11] (5 + (x : Int)) = some (.int v) ∧ 0 ≤ v ∧ v < 7 := by
      match x, hi with
      | 0, _ => exact ⟨v5, rfl, a5, b5⟩
      | 1, _ => exact ⟨v6, rfl, a6, b6⟩
      | 2, _ => exact ⟨v7, rfl, a7, b7⟩
      | k + 3, h => omega
    obtain ⟨v, e1, e2, e3⟩ := this
    refine rs_ixL e1 ?_
    exact ix_str (by omega) (by omega) fun n _ hn => ⟨n, rfl, hn⟩
  intro p2 p2l p2m
  rw [List.length_range] at p2l
  have p2m : ∀ n ∈ p2, n ∈ menu := fun n hn => by
    obtain ⟨k, hk, rfl⟩ := List.getElem_of_mem hn
    exact p2m k k _ (by rw [List.getElem?_range (by omega)]) (List.getElem?_eq_getElem hk)
  refine rs_joinC (by omega) ?_
  array_get_dec
  generalize hR : iL [(n0 : Int), (n1 : Int), v2, v3, v4, v5, v6, v7, v8, v9, v10, v11] = R
  have i10 : Rs (ixD R (.int 10)) (fun d => d = .int v10) nE := by subst hR; exact rs_ixL rfl rfl
  have i0 : Rs (ixD R (.int 0)) (fun d => d = .int (n0 : Int)) nE := by subst hR; exact rs_ixL rfl rfl
  have i1 : Rs (ixD R (.int 1)) (fun d => d = .int (n1 : Int)) nE := by subst hR; exact rs_ixL rfl rfl
  have i9 : Rs (ixD R (.int 9)) (fun d => d = .int v9) nE := by subst hR; exact rs_ixL rfl rfl
  refine ss_join (fun r => ∃ a x, a.length ≤ 3 ∧ r = [some (.int c), some (.str (Sg l)), some (.int s), some R, some (.str (Sg abc)), some (.str (Sg menu)), some (.str (Sg a)), x, some (.str (Sg p2))]) ?_ ?_ ?_
  · intro h
    have hd : (p1.drop 1).length ≤ 3 := by rw [List.length_drop]; omega
    array_get_dec
    rw [show (1 : Int) = ((1 : Nat) : Int) from rfl, cut_drop]
    array_get_dec
    refine ⟨46 :: p1.drop 1, none, ?_, rfl⟩
    simp; omega
  · intro h
    array_get_dec
    exact ⟨p1, none, by omega, rfl⟩
  · rintro r ⟨a, x, ha, rfl⟩
    have al := ha
    array_get_dec
    refine i1.imp ?_
    rintro _ rfl
    array_get_dec
    refine i9.imp ?_
    rintro _ rfl
    array_get_dec
    refine ss_join (fun r => ∃ b x, b.length ≤ 3 ∧ r = [some (.int c), some (.str (Sg l)), some (.int s), some R, some (.str (Sg abc)), some (.str (Sg menu)), some (.str (Sg a)), x, some (.str (Sg b))]) ?_ ?_ ?_
    · intro h
      have hn1 : 0 < n1 := by simp at h; omega
      have hcl : (p2.take (p2.length - 1)).length ≤ 3 := by rw [List.length_take]; omega
      array_get_dec
      rw [show (-1 : Int) = -((1 : Nat) : Int) from rfl, cut_back _ 1 (by omega)]
      array_get_dec
      refine ⟨_, _, ?_, rfl⟩
      simp; omega
    · intro h
      array_get_dec
      exact ⟨p2, _, by omega, rfl⟩
    · rintro r ⟨b, x, hb, rfl⟩
      array_get_dec
      refine i10.imp ?_
      rintro _ rfl
      array_get_dec
      exact ⟨a, b, _, rfl, ha, hb⟩
theorem written_sp (p q : List Nat) (f : Bool) (hp : p.length ≤ 3) (hq : q.length ≤ 3) : Rs (F_l_written [.tup [.str (Sg p), .str (Sg q), .bl f]]) (fun d => ∃ l, d = .str (Sg l) ∧ l.length ≤ 10) nE := by
  refine rs_run ?_
  unfold Fb_l_written
  array_get_dec
  refine ⟨fun h => ?_, fun h => ?_⟩
  · array_get_dec
    exact ⟨_, rfl, by simp; omega⟩
  · array_get_dec
    exact ⟨_, rfl, by simp; omega⟩
theorem odd_sp (v : Int) (h0 : 0 ≤ v) (h1 : v < 38) : Rs (F_l_odd [.int v]) (fun d => ∃ l, d = .str (Sg l) ∧ l.length ≤ 12) nE := by
  refine rs_run ?_
  unfold Fb_l_odd
  array_get_dec
  obtain ⟨k, rfl⟩ : ∃ k : Nat, v = (k : Int) := ⟨v.toNat, by omega⟩
  have hk : k < 38 := by omega
  have hall : ∀ k, k < 38 → ∃ l : List Nat, ([.str (Sg []), .str (Sg [110, 111]), .str (Sg [32, 110, 111]), .str (Sg [45, 32, 32, 110, 111]), .str (Sg [97, 45, 98, 32, 32, 110, 111]), .str (Sg [97, 45, 98, 32, 110, 111, 32]), .str (Sg [32, 97, 45, 98]), .str (Sg [97, 45, 98, 32, 110, 111, 116]), .str (Sg [97, 45, 98, 32, 78, 111]), .str (Sg [45, 45]), .str (Sg [97, 45, 98, 45, 99]), .str (Sg [97, 98, 99, 100, 45]), .str (Sg [45, 97, 98, 99, 100]), .str (Sg [97, 46, 45]), .str (Sg [45, 46, 97]), .str (Sg [46, 46, 45]), .str (Sg [45, 46, 46]), .str (Sg [46, 97, 46, 45]), .str (Sg [65, 45, 98]), .str (Sg [97, 45, 66]), .str (Sg [97, 49, 45]), .str (Sg [97, 95, 98]), .str (Sg [97, 32, 45, 32, 98]), .str (Sg [117, 110, 45, 63, 32, 110, 111, 32, 110, 111]), .str (Sg [97, 45, 98, 10]), .str (Sg [45, 110, 111]), .str (Sg [110, 45, 111, 32, 110, 111]), .str (Sg [46, 45, 46]), .str (Sg [63, 63, 63, 45, 63, 63, 63]), .str (Sg [46, 63, 63, 45, 63, 63, 46]), .str (Sg [45, 32, 110, 111]), .str (Sg [45]), .str (Sg [45, 110, 111, 32, 110, 111]), .str (Sg [46, 97, 98, 99, 45]), .str (Sg [45, 97, 98, 99, 46]), .str (Sg [97, 45, 98, 32, 110, 111, 10]), .str (Sg [42, 45, 97]), .str (Sg [117, 110, 45, 63, 9])] : List D)[k]? = some (.str (Sg l)) ∧ l.length ≤ 12 := by
    intro k hk
    have : k ∈ List.range 38 := List.mem_range.mpr hk
    simp only [List.range, List.range.loop, List.mem_cons, List.not_mem_nil, or_false] at this
    rcases this with rfl | rfl | rfl | rfl | rfl | rfl | rfl | rfl | rfl | rfl | rfl | rfl | rfl | rfl | rfl | rfl | rfl | rfl | rfl | rfl | rfl | rfl | rfl | rfl | rfl | rfl | rfl | rfl | rfl | rfl | rfl | rfl | rfl | rfl | rfl | rfl | rfl | rfl <;> exact ⟨_, rfl, by decide⟩
  obtain ⟨l, e, hl⟩ := hall k hk
  refine rs_ixL (atI_nat e) ?_
  exact ⟨l, rfl, hl⟩
theorem sign_sp (v : Int) (h0 : 0 ≤ v) (h1 : v < 16) {Q : D → Prop} {E : Str → List Str → List D → Prop} (q : ∀ n, Q (.str (Sg [n]))) : Rs (ixD (.str (Sg [45, 46, 63, 32, 97, 98, 110, 111, 65, 122, 48, 126, 95, 42, 45, 46])) (.int v)) Q E := ix_str ⟨h0, h1⟩ (by decide) fun n _ _ => q n
def Lin (d : D) : Prop := ∃ l : List Nat, d = .str (Sg l) ∧ l.length ≤ 12
theorem line_sp (c m : Int) (l : List Nat) (hl : Low l) (l1 : 1 ≤ l.length) (l3 : l.length ≤ 3) : Rs (F_l_line [.int c, .int m, .str (Sg l)]) Lin nE := by
  refine rs_run ?_
  unfold Fb_l_line
  array_get_dec
  refine (joint_sp c 1 l hl l1 l3).imp ?_
  rintro _ ⟨p, q, f, rfl, hp, hq⟩
  array_get_dec
  refine (written_sp p q f hp hq).imp ?_
  rintro _ ⟨t, rfl, ht⟩
  array_get_dec
  refine row_of m [12, 38, 3, 12, 16] (by decide) (by decide) fun vs hv => ?_
  obtain ⟨v0, _, rfl, a0, b0, hv⟩ := hv.cons
  obtain ⟨v1, _, rfl, a1, b1, hv⟩ := hv.cons
  obtain ⟨v2, _, rfl, a2, b2, hv⟩ := hv.cons
  obtain ⟨v3, _, rfl, a3, b3, hv⟩ := hv.cons
  obtain ⟨v4, _, rfl, a4, b4, hv⟩ := hv.cons
  cases hv.nil
  array_get_dec
  refine ⟨fun h => ?_, fun h => ?_⟩
  · array_get_dec
    refine (odd_sp v1 a1 b1).imp ?_
    rintro _ ⟨t, rfl, ht⟩
    exact ⟨t, rfl, ht⟩
  · array_get_dec
    refine ⟨fun h => ?_, fun h => ?_⟩
    · array_get_dec
      have m0 : 0 ≤ v3 % ((t.length : Int) + 1) := Int.emod_nonneg _ (by omega)
      obtain ⟨k, hk⟩ : ∃ k : Nat, v3 % ((t.length : Int) + 1) = (k : Int) := ⟨(v3 % ((t.length : Int) + 1)).toNat, by omega⟩
      rw [hk]
      refine sign_sp v4 a4 b4 fun n => ?_
      have c1 := List.length_take_le k t
      have c1' := List.length_take_le' k t
      have c2 : (t.drop k).length ≤ t.length - k := by rw [List.length_drop]; exact Nat.le_refl _
      have c3 : (t.drop (k + 1)).length ≤ t.length := by rw [List.length_drop]; omega
      array_get_dec
      refine ⟨fun h => ?_, fun h => ?_⟩
      · array_get_dec
        rw [cut_take]
        array_get_dec
        rw [cut_drop]
        array_get_dec
        exact ⟨_, rfl, by simp; omega⟩
      · array_get_dec
        refine ⟨fun h => ?_, fun h => ?_⟩
        · array_get_dec
          rw [cut_take]
          array_get_dec
          rw [show (k : Int) + 1 = ((k + 1 : Nat) : Int) from rfl, cut_drop]
          array_get_dec
          exact ⟨_, rfl, by simp; omega⟩
        · array_get_dec
          rw [show (k : Int) + 1 = ((k + 1 : Nat) : Int) from rfl, cut_drop]
          rw [cut_take]
          array_get_dec
          exact ⟨_, rfl, by simp; omega⟩
    · array_get_dec
      exact ⟨t, rfl, by omega⟩
end
section
def lnD (l : List Nat) : D := .str (Sg l)
theorem rs_lcE {α : Type} {its : Rho → Res (List D)} {tg : D → Rho → Res Rho} {tt : Rho → Res Bool} {fe : Rho → Res D} {vs : List Nat} {r : Rho} {Q : D → Prop} {E : Str → List Str → List D → Prop} (c : α → D) (xs : List α) (hi : Rs (its r) (fun ds => ds = xs.map c) E) (hl : xs.length ≤ sizeLine)
    (h : Rs (lcLoopE tg tt fe (wipeR r vs) (xs.map c)) (fun ys => Q (.lst ys)) E) : Rs (dLcE its tg tt fe vs r) Q E :=
  Rs.bind (hi.impE (fun ds e => by
    subst e
    exact rs_guard (by rw [List.length_map]; exact hl) (Rs.bind (h.impE (fun ys q => q) fun _ _ _ z => z))) fun _ _ _ z => z)
theorem ss_try2 {r : Rho} {isM isM2 : Str → Option Bool} {i j : Nat} {Fb Fs Fs2 : Rho → SR} {N B C : Rho → Prop} {R : D → Prop} {E : Rho → Str → List Str → List D → Prop} (h : Ss (Fb r) N R B C fun r' n ns vs => (isM n = some true ∧ Ss (Fs (r'.set i (some (.obj n ns vs)))) (fun r => N (r.set i none)) R (fun r => B (r.set i none)) (fun r => C (r.set i none)) nE') ∨
    (isM n = some false ∧ isM2 n = some true ∧ Ss (Fs2 (r'.set j (some (.obj n ns vs)))) (fun r => N (r.set j none)) R (fun r => B (r.set j none)) (fun r => C (r.set j none)) nE')) : Ss (try2F isM i Fs isM2 j Fs2 Fb r) N R B C E := by
  unfold try2F
  cases e : Fb r with
  | nx r => rw [e] at h; exact h
  | rt d => rw [e] at h; exact h
  | bk r => rw [e] at h; exact h
  | ct r => rw [e] at h; exact h
  | bad => rw [e] at h; exact h
  | er r' n ns vs =>
    rw [e] at h
    rcases h with ⟨h1, h2⟩ | ⟨h1, h3, h2⟩
    · dsimp only
      rw [h1]
      dsimp only
      cases e2 : Fs (r'.set i (some (.obj n ns vs))) with
      | nx r => rw [e2] at h2; exact h2
      | rt d => rw [e2] at h2; exact h2
      | bk r => rw [e2] at h2; exact h2
      | ct r => rw [e2] at h2; exact h2
      | bad => rw [e2] at h2; exact h2
      | er r n ns vs => rw [e2] at h2; exact h2.elim
    · dsimp only
      rw [h1]
      dsimp only
      rw [h3]
      dsimp only
      cases e2 : Fs2 (r'.set j (some (.obj n ns vs))) with
      | nx r => rw [e2] at h2; exact h2
      | rt d => rw [e2] at h2; exact h2
      | bk r => rw [e2] at h2; exact h2
      | ct r => rw [e2] at h2; exact h2
      | bad => rw [e2] at h2; exact h2
      | er r n ns vs => rw [e2] at h2; exact h2.elim
def joD (ls : List (List Nat)) : D := .obj "Joints" ["readings", "lines"] [.lst (ls.map jD), .lst (ls.map lnD)]
def Sm (ls : List (List Nat)) : Prop := ∀ l ∈ ls, l.length ≤ 900
theorem read_ok {l : List Nat} (hl : l.length ≤ 900) (hw : wB l = true) : F_read_joint [.str (Sg l)] = .ok (jD l) := Rs.eq ((read_sp l hl).impE (fun _ h => h.2) fun _ _ _ h => by rw [hw] at h; cases h.1)
theorem read_no {l : List Nat} (hl : l.length ≤ 900) (hw : wB l = false) : F_read_joint [.str (Sg l)] = .err "BadJoint" ["text"] [.str (Sg l)] := Rs.errEq ((read_sp l hl).impE (fun _ h => by rw [hw] at h; cases h.1) fun _ _ _ h => h.2)
/-- what Joints of the lines comes to -/
def JoQ (ls : List (List Nat)) (Q : D → Prop) (E : Str → List Str → List D → Prop) : Prop :=
  (8 < ls.length → E "TooLarge" ["many"] [.int ls.length]) ∧ (ls.length ≤ 8 → (∀ b post, ls.filter (fun l => !wB l) = b :: post → E "BadJoint" ["text"] [lnD b]) ∧ (ls.filter (fun l => !wB l) = [] → Q (joD ls)))
theorem first_bad : ∀ (ls : List (List Nat)) {b : List Nat} {post : List (List Nat)}, ls.filter (fun l => !wB l) = b :: post → ∃ pre rest, ls = pre ++ b :: rest ∧ (∀ l ∈ pre, wB l = true) ∧ wB b = false
  | [], _, _, h => by cases h
  | l :: ls, b, post, h => by
    cases hw : wB l with
    | true =>
      rw [List.filter_cons, if_neg (by rw [hw]; decide)] at h
      obtain ⟨pre, rest, e, h1, h2⟩ := first_bad ls h
      refine ⟨l :: pre, rest, by rw [e]; rfl, fun x hx => ?_, h2⟩
      rcases List.mem_cons.mp hx with rfl | hx
      · exact hw
      · exact h1 x hx
    | false =>
      rw [List.filter_cons, if_pos (by rw [hw]; decide)] at h
      cases h
      exact ⟨[], ls, rfl, fun x hx => (by cases hx), hw⟩
theorem all_good {ls : List (List Nat)} (h : ls.filter (fun l => !wB l) = []) : ∀ l ∈ ls, wB l = true := fun l hl => by
  have := List.filter_eq_nil_iff.mp h l hl
  simpa using this
theorem init_sp (ls : List (List Nat)) (hs : Sm ls) (hn : ls.length ≤ 10000) {Q : D → Prop} {E : Str → List Str → List D → Prop} (q : JoQ ls Q E) : Rs (F_Joints_init [.lst (ls.map lnD)]) Q E := by
  refine rs_runI ?_
  unfold Fb_Joints_init
  array_get_dec
  rw [List.length_map]
  refine ⟨fun h => ?_, fun h => ?_⟩
  · have h := of_decide_eq_true h
    refine ss_raise (rs_cons (rs_call (rs_cons (rs_var rfl (rs_nil ?_)))))
    array_get_dec
    refine ⟨rfl, ?_⟩
    rw [List.length_map]
    exact q.1 (by omega)
  · have h := of_decide_eq_false h
    have h8 : ls.length ≤ 8 := by omega
    obtain ⟨q1, q2⟩ := q.2 h8
    array_get_dec
    refine ss_fst (ns := []) (vs := []) ?_
    refine rs_lcE lnD ls ?_ (Nat.le_trans (by omega) sz5) ?_
    · array_get_dec; rfl
    · cases hf : ls.filter (fun l => !wB l) with
      | cons b post =>
        obtain ⟨pre, rest, e, h1, h2⟩ := first_bad ls hf
        rw [e]
        have hsm : ∀ l ∈ pre ++ b :: rest, l.length ≤ 900 := by rw [← e]; exact hs
        refine Rs.ofE (lcE_bad (g := jD) lnD (n := "BadJoint") (ns := ["text"]) (vs := [.str (Sg b)]) rest b ⟨_, rfl, rfl, ?_⟩ pre fun x hx => ⟨_, rfl, rfl, ?_⟩) (q1 b post hf)
        · exact read_no (hsm b (by simp)) h2
        · exact read_ok (hsm x (by simp [hx])) (h1 x hx)
      | nil =>
        refine Rs.of (lcE_all lnD jD ls fun x hx => ⟨_, rfl, rfl, read_ok (hs x hx) (all_good hf x hx)⟩) ?_
        refine ⟨rfl, by decide, ?_⟩
        refine ss_fst (ns := ["readings"]) (vs := [.lst (ls.map jD)]) ?_
        array_get_dec
        exact ⟨rfl, by decide, _, rfl, q2 hf⟩
def dueD (ls : List (List Nat)) : D := if 8 < ls.length then .tup [.str (Sg [108, 97, 114, 103, 101]), .int ls.length] else match ls.filter (fun l => !wB l) with
  | b :: _ => .tup [.str (Sg [98, 97, 100]), lnD b]
  | [] => .tup [.str (Sg [109, 97, 100, 101]), .int ls.length, .lst (ls.map lnD), .lst (ls.map lnD)]
theorem len_eq (ls : List (List Nat)) (hn : ls.length ≤ 10000) : F_Joints_len [joD ls] = .ok (.int ls.length) := Rs.eq (by
  refine rs_run ?_
  unfold Fb_Joints_len joD
  array_get_dec
  rw [List.length_map])
theorem joLen {ls : List (List Nat)} {Q : D → Prop} {E : Str → List Str → List D → Prop} (hn : ls.length ≤ 10000) (q : Q (.int ls.length)) : Rs (g1 (lenO "Joints" F_Joints_len) [joD ls]) Q E := rs_lenO (len_eq ls hn) ⟨by omega, by omega⟩ q
theorem joList {ls : List (List Nat)} {Q : D → Prop} {E : Str → List Str → List D → Prop} (hn : ls.length ≤ 10000) (q : Q (.lst (ls.map lnD))) : Rs (g1 (listO "Joints" "lines" "lines") [joD ls]) Q E := rs_listO rfl rfl (Nat.le_trans (by rw [List.length_map]; omega) sz5) (Nat.le_trans (by rw [List.length_map]; omega) sz5) q
theorem made_eq (ls : List (List Nat)) (hs : Sm ls) (hn : ls.length ≤ 10000) : F_l_made [.lst (ls.map lnD)] = .ok (dueD ls) := Rs.eq (by
  refine rs_run ?_
  unfold Fb_l_made
  refine ss_seq (ss_try2 ?_)
  refine ss_set (rs_call (rs_cons (rs_var rfl (rs_nil ?_))))
  refine init_sp ls hs hn ⟨fun h => .inl ⟨rfl, ?_⟩, fun h => ⟨fun b post hf => .inr ⟨rfl, rfl, ?_⟩, fun hf => ?_⟩⟩
  · refine ss_seq (ss_if (rs_T (rs_isX rfl rfl (rs_asB ⟨fun z => (by cases z), fun _ => ?_⟩))))
    refine ss_ret (rs_tup (rs_cons (rs_c (rs_cons (rs_xf rfl rfl (rs_nil ?_))))))
    refine ⟨Nat.le_of_ble_eq_true rfl, ?_⟩
    unfold dueD
    rw [if_pos h]
  · refine ss_ret (rs_tup (rs_cons (rs_c (rs_cons (rs_xf rfl rfl (rs_nil ?_))))))
    refine ⟨Nat.le_of_ble_eq_true rfl, ?_⟩
    unfold dueD
    rw [if_neg (by omega), hf]
  · array_get_dec
    refine joLen hn ?_
    array_get_dec
    refine joList hn ?_
    array_get_dec
    refine rs_lc lnD lnD ls ?_ (Nat.le_trans (by omega) sz5) (fun l hl => ⟨_, rfl, rfl, ?_⟩) ?_
    · refine rs_it (rs_var rfl (rs_itO rfl rfl))
    · array_get_dec
      rfl
    · array_get_dec
      unfold dueD
      rw [if_neg (by omega), hf])
def rfB (ls : List (List Nat)) : Bool := decide (8 < ls.length) || !(ls.filter (fun l => !wB l)).isEmpty
theorem refused_eq (ls : List (List Nat)) (hs : Sm ls) (hn : ls.length ≤ 10000) : F_l_refused [.lst (ls.map lnD)] = .ok (.bl (rfB ls)) := Rs.eq (by
  refine rs_run ?_
  unfold Fb_l_refused
  refine ss_seq (ss_try ?_)
  refine ss_drop (rs_call (rs_cons (rs_var rfl (rs_nil ?_))))
  refine init_sp ls hs hn ⟨fun h => ⟨rfl, ?_⟩, fun h => ⟨fun b post hf => ⟨rfl, ?_⟩, fun hf => ?_⟩⟩
  · refine ss_ret (rs_isX rfl rfl ?_)
    unfold rfB
    rw [decide_eq_true h]; rfl
  · refine ss_ret (rs_isX rfl rfl ?_)
    unfold rfB
    rw [hf]; simp
  · array_get_dec
    unfold rfB
    rw [hf, decide_eq_false (by omega)]; rfl)
theorem same_lines (n : Nat) (ls : List (List Nat)) (hn : ls.length ≤ 10000) : F_l_same (n + 2) [.lst (ls.map lnD), .lst (ls.map lnD)] = .ok (.bl true) := same_lst _ _ (by rw [List.length_map]; exact hn) fun d hd => by
  obtain ⟨l, _, rfl⟩ := List.mem_map.mp hd
  exact same_str n l
theorem same_due (ls : List (List Nat)) (hn : ls.length ≤ 10000) : F_l_same 8 [dueD ls, dueD ls] = .ok (.bl true) := by
  unfold dueD
  split
  · refine same_tup 7 _ (by simp) fun d hd => ?_
    simp only [List.mem_cons, List.not_mem_nil, or_false] at hd
    rcases hd with rfl | rfl
    · exact same_str 6 _
    · exact same_int 6 _
  · cases ls.filter (fun l => !wB l) with
    | cons b post =>
      refine same_tup 7 _ (by simp) fun d hd => ?_
      simp only [List.mem_cons, List.not_mem_nil, or_false] at hd
      rcases hd with rfl | rfl
      · exact same_str 6 _
      · exact same_str 6 _
    | nil =>
      refine same_tup 7 _ (by simp) fun d hd => ?_
      simp only [List.mem_cons, List.not_mem_nil, or_false] at hd
      rcases hd with rfl | rfl | rfl | rfl
      · exact same_str 6 _
      · exact same_int 6 _
      · exact same_lines 5 ls hn
      · exact same_lines 5 ls hn
theorem due_head (ls : List (List Nat)) : ∃ h t, dueD ls = .tup (.str (Sg h) :: t) ∧ (decide (h = [109, 97, 100, 101]) = !rfB ls) := by
  unfold dueD rfB
  by_cases h : 8 < ls.length
  · rw [if_pos h, decide_eq_true h]
    exact ⟨_, _, rfl, rfl⟩
  · rw [if_neg h, decide_eq_false h]
    cases ls.filter (fun l => !wB l) with
    | cons b post => exact ⟨_, _, rfl, rfl⟩
    | nil => exact ⟨_, _, rfl, rfl⟩
theorem good_all (ls : List (List Nat)) : ∀ l ∈ (ls.filter fun l => wB l), wB l = true := fun l hl => (List.mem_filter.mp hl).2
theorem no_bad {ls : List (List Nat)} (h : ∀ l ∈ ls, wB l = true) : ls.filter (fun l => !wB l) = [] := List.filter_eq_nil_iff.mpr fun l hl => by rw [h l hl]; decide
theorem init_good (ls : List (List Nat)) (hs : Sm ls) (hn : ls.length ≤ 8) (hg : ∀ l ∈ ls, wB l = true) : F_Joints_init [.lst (ls.map lnD)] = .ok (joD ls) := Rs.eq (init_sp ls hs (by omega) ⟨fun h => (by omega), fun _ => ⟨fun b post hf => (by rw [no_bad hg] at hf; cases hf), fun _ => rfl⟩⟩)
theorem atI0 (x : D) (xs : List D) : atI (x :: xs) 0 = some x := by
  show atI (x :: xs) ((0 : Nat) : Int) = some x
  exact atI_nat rfl
theorem law_true (ns : List Int) (hl : ns.length ≤ 63) : F_law [.fz (ns.map D.int)] = .ok (.bl true) := Rs.eq (by
  refine rs_run ?_
  unfold Fb_law
  array_get_dec
  refine Rs.of (cell_eq ns 0) ?_
  refine (letters_sp _).imp ?_
  rintro _ ⟨lt, rfl, hlow, l1, l3⟩
  array_get_dec
  refine Rs.of (cell_eq ns 1) ?_
  array_get_dec
  refine row_of _ [11] (by decide) (by decide) fun vs hv => ?_
  obtain ⟨v0, _, rfl, a0, b0, hv⟩ := hv.cons
  cases hv.nil
  array_get_dec
  obtain ⟨n, rfl⟩ : ∃ n : Nat, v0 = (n : Int) := ⟨v0.toNat, by omega⟩
  generalize hfz : D.fz (ns.map D.int) = fz
  refine ss_rng n (fun i r => ∃ ls x4 x5, ls.length = i ∧ (∀ l ∈ ls, l.length ≤ 12) ∧ r = [some fz, some (.str (Sg lt)), some (.int (n : Int)), some (.lst (ls.map lnD)), x4, x5, none, none, none, none, none, none, none]) (by array_get_dec; rfl) (by omega) ⟨[], none, none, rfl, fun l h => (by cases h), rfl⟩ ?_ ?_
  · rintro i r hi ⟨ls, x4, x5, hlen, hls, rfl⟩
    show Ss (Lp_law_1 [some fz, some (.str (Sg lt)), some (.int (n : Int)), some (.lst (ls.map lnD)), some (.int (i : Int)), x5, none, none, none, none, none, none, none]) _ _ _ _ _
    unfold Lp_law_1
    subst hfz
    array_get_dec
    rw [show ((12 : Int) + (i : Int)) = ((12 + i : Nat) : Int) from rfl]
    refine Rs.of (cell_eq ns (12 + i)) ?_
    array_get_dec
    rw [show ((2 : Int) + (i : Int)) = ((2 + i : Nat) : Int) from rfl]
    refine Rs.of (cell_eq ns (2 + i)) ?_
    array_get_dec
    refine (line_sp _ _ lt hlow l1 l3).imp ?_
    rintro _ ⟨l, rfl, hll⟩
    array_get_dec
    refine ⟨ls ++ [l], _, _, by simp [hlen], fun z hz => ?_, by rw [List.map_append]; rfl⟩
    rcases List.mem_append.mp hz with hz | hz
    · exact hls z hz
    · cases List.mem_singleton.mp hz; exact hll
  · rintro r ⟨ls, x4, x5, hlen, hls, rfl⟩
    have hn : ls.length ≤ 10 := by omega
    have hn' : ls.length ≤ 10000 := by omega
    have hs : Sm ls := fun l hl => by have := hls l hl; omega
    array_get_dec
    refine rs_lcF lnD lnD (fun l => !wB l) ls ?_ (Nat.le_trans (by omega) sz5) (fun l hl => ⟨_, rfl, ?_, fun _ => ?_⟩) ?_
    · array_get_dec; rfl
    · array_get_dec
      exact Rs.of (written_eq l (hs l hl)) rfl
    · array_get_dec; rfl
    array_get_dec
    refine ss_join (fun r => ∃ x4 x5, r = [some fz, some (.str (Sg lt)), some (.int (n : Int)), some (.lst (ls.map lnD)), x4, x5, some (.lst ((ls.filter fun l => !wB l).map lnD)), none, some (dueD ls), none, none, none, none]) ?_ ?_ ?_
    · intro h
      have h := of_decide_eq_true h
      array_get_dec
      refine ⟨x4, x5, ?_⟩
      unfold dueD
      rw [if_pos (by omega), hlen]
      rfl
    · intro h
      have h := of_decide_eq_false h
      array_get_dec
      cases hf : ls.filter (fun l => !wB l) with
      | cons b post =>
        refine ⟨fun _ => ?_, fun z => absurd (of_decide_eq_false z) (by simp)⟩
        array_get_dec
        refine rs_ixL (d := lnD b) (atI0 _ _) ?_
        array_get_dec
        refine ⟨x4, x5, ?_⟩
        unfold dueD
        rw [if_neg (by omega), hf]
        rfl
      | nil =>
        refine ⟨fun z => absurd (of_decide_eq_true z) (by simp), fun _ => ?_⟩
        array_get_dec
        refine ⟨x4, x5, ?_⟩
        unfold dueD
        rw [if_neg (by omega), hf, hlen]
        rfl
    · rintro r ⟨x4, x5, rfl⟩
      obtain ⟨hh, ht, he, hd⟩ := due_head ls
      array_get_dec
      refine Rs.of (made_eq ls hs hn') ?_
      array_get_dec
      refine Rs.of (same_due ls hn') ?_
      array_get_dec
      refine Rs.of (same_lines 6 ls hn') ?_
      array_get_dec
      refine ⟨fun z => (by cases z), fun _ => ?_⟩
      array_get_dec
      rw [he]
      array_get_dec
      refine rs_ixT (d := .str (Sg hh)) (atI0 _ _) ?_
      array_get_dec
      refine Rs.of (refused_eq ls hs hn') ?_
      array_get_dec
      rw [hd]
      refine ⟨fun z => absurd z (by cases rfB ls <;> decide), fun _ => ?_⟩
      array_get_dec
      refine rs_lcF lnD lnD (fun l => wB l) ls ?_ (Nat.le_trans (by omega) sz5) (fun l hl => ⟨_, rfl, ?_, fun _ => ?_⟩) ?_
      · array_get_dec; rfl
      · array_get_dec
        exact Rs.of (written_eq l (hs l hl)) rfl
      · array_get_dec; rfl
      array_get_dec
      rw [show (8 : Int) = ((8 : Nat) : Int) from rfl, cut_take, ← List.map_take]
      have gs : Sm ((ls.filter fun l => wB l).take 8) := fun l hl => hs l (List.mem_filter.mp (List.mem_of_mem_take hl)).1
      have gn : ((ls.filter fun l => wB l).take 8).length ≤ 8 := by rw [List.length_take]; omega
      have gw : ∀ l ∈ (ls.filter fun l => wB l).take 8, wB l = true := fun l hl => good_all ls l (List.mem_of_mem_take hl)
      generalize (ls.filter fun l => wB l).take 8 = g at gs gn gw
      generalize (ls.filter fun l => !wB l) = bd
      array_get_dec
      refine Rs.of (init_good g gs gn gw) ?_
      array_get_dec
      refine Rs.of (same_lines 6 g (by omega)) ?_
      array_get_dec
      refine ⟨fun z => (by cases z), fun _ => ?_⟩
      array_get_dec
      have hst : ∀ (X : List D) (y z : D), ixN (X ++ [y]).length 0 = some 0 := fun X y z => by
        unfold ixN
        simp
      refine ss_sto (ds := g.map lnD ++ [.str (Sg [45])]) (k := 0) (n := 0) ?_
      refine rs_c ⟨rfl, ?_⟩
      refine rs_c ⟨rfl, hst _ _ .non, ?_⟩
      array_get_dec
      refine joLen (by omega) ?_
      array_get_dec
      refine ⟨fun z => absurd z (by simp), fun _ => ?_⟩
      array_get_dec
      refine joList (by omega) ?_
      array_get_dec
      refine Rs.of (same_lines 6 g (by omega)) ?_
      array_get_dec
      refine ⟨fun z => (by cases z), fun _ => ?_⟩
      have cd : cutL (g.map lnD) (some 1) none = (g.drop 1).map lnD := by rw [show (1 : Int) = ((1 : Nat) : Int) from rfl, cut_drop, List.map_drop]
      have dn : (g.drop 1).length ≤ 8 := by rw [List.length_drop]; omega
      array_get_dec
      rw [cd]
      refine Rs.of (init_good (g.drop 1) (fun l hl => gs l (List.mem_of_mem_drop hl)) dn fun l hl => gw l (List.mem_of_mem_drop hl)) ?_
      array_get_dec
      refine joLen (by omega) ?_
      array_get_dec
      refine joList (by omega) ?_
      array_get_dec
      rw [cd]
      refine Rs.of (same_lines 6 (g.drop 1) (by omega)) ?_
      array_get_dec
      refine ⟨fun z => absurd z (by simp), fun _ => ?_⟩
      array_get_dec
      refine joList (by omega) ?_
      array_get_dec
      exact Rs.of (same_lines 6 g (by omega)) rfl)
end
end Lk
end S_M
section S_P_walk
set_option Elab.async false
set_option linter.all false
set_option maxRecDepth 100000
set_option maxHeartbeats 4000000
namespace Lk
open PySem L2 Dx
def topS (i : Nat) : Stmt := PySem.Challenge.pw_laidforall_k28_joint_rows_are_read.main.body.getD i (.Pass ⟨0, 0, 0, 0⟩)
abbrev s_is_part : Stmt := topS 8
theorem sc_is_part : FnScope ["text", "dot", "at", "char"] ["text", "dot"] (defScope s_is_part) := ⟨rfl, rfl, rfl, by decide +kernel, rfl, by decide +kernel, by decide +kernel⟩
abbrev s_read_joint : Stmt := topS 9
theorem sc_read_joint : FnScope ["line", "text", "forbids", "left", "right"] ["line"] (defScope s_read_joint) := ⟨rfl, rfl, rfl, by decide +kernel, rfl, by decide +kernel, by decide +kernel⟩
abbrev s_Joints_init : Stmt := inClass (topS 11) 1
theorem sc_Joints_init : FnScope ["self", "lines", "line"] ["self", "lines"] (defScope s_Joints_init) := ⟨rfl, rfl, rfl, by decide +kernel, rfl, by decide +kernel, by decide +kernel⟩
abbrev s_Joints_len : Stmt := inClass (topS 11) 2
theorem sc_Joints_len : FnScope ["self"] ["self"] (defScope s_Joints_len) := ⟨rfl, rfl, rfl, by decide +kernel, rfl, by decide +kernel, by decide +kernel⟩
abbrev s_l_cell : Stmt := topS 13
theorem sc_l_cell : FnScope ["_law_script", "_law_k"] ["_law_script", "_law_k"] (defScope s_l_cell) := ⟨rfl, rfl, rfl, by decide +kernel, rfl, by decide +kernel, by decide +kernel⟩
abbrev s_l_row : Stmt := topS 14
theorem sc_l_row : FnScope ["_law_cell_here", "_law_limits", "_law_row_here", "_law_rest", "_law_limit", "_law_k", "_law_mixed"] ["_law_cell_here", "_law_limits"] (defScope s_l_row) := ⟨rfl, rfl, rfl, by decide +kernel, rfl, by decide +kernel, by decide +kernel⟩
abbrev s_l_same : Stmt := topS 15
theorem sc_l_same : FnScope ["_law_one", "_law_two", "_law_k"] ["_law_one", "_law_two"] (defScope s_l_same) := ⟨rfl, rfl, rfl, by decide +kernel, rfl, by decide +kernel, by decide +kernel⟩
abbrev s_l_letters : Stmt := topS 16
theorem sc_l_letters : FnScope ["_law_cell_here", "_law_row_here", "_law_many", "_law_alphabet", "_law_out", "_law_letter", "_law_k"] ["_law_cell_here"] (defScope s_l_letters) := ⟨rfl, rfl, rfl, by decide +kernel, rfl, by decide +kernel, by decide +kernel⟩
abbrev s_l_joint : Stmt := topS 17
theorem sc_l_joint : FnScope ["_law_cell_here", "_law_letters_here", "_law_share", "_law_row_here", "_law_alphabet", "_law_menu", "_law_left", "_law_k", "_law_right"] ["_law_cell_here", "_law_letters_here", "_law_share"] (defScope s_l_joint) := ⟨rfl, rfl, rfl, by decide +kernel, rfl, by decide +kernel, by decide +kernel⟩
abbrev s_l_written : Stmt := topS 18
theorem sc_l_written : FnScope ["_law_row_here"] ["_law_row_here"] (defScope s_l_written) := ⟨rfl, rfl, rfl, by decide +kernel, rfl, by decide +kernel, by decide +kernel⟩
abbrev s_l_odd : Stmt := topS 19
theorem sc_l_odd : FnScope ["_law_pick", "_law_lines"] ["_law_pick"] (defScope s_l_odd) := ⟨rfl, rfl, rfl, by decide +kernel, rfl, by decide +kernel, by decide +kernel⟩
abbrev s_l_line : Stmt := topS 20
theorem sc_l_line : FnScope ["_law_cell_here", "_law_more", "_law_letters_here", "_law_text", "_law_row_here", "_law_at", "_law_sign"] ["_law_cell_here", "_law_more", "_law_letters_here"] (defScope s_l_line) := ⟨rfl, rfl, rfl, by decide +kernel, rfl, by decide +kernel, by decide +kernel⟩
abbrev s_l_is_part : Stmt := topS 21
theorem sc_l_is_part : FnScope ["_law_part", "_law_dot", "_law_k"] ["_law_part", "_law_dot"] (defScope s_l_is_part) := ⟨rfl, rfl, rfl, by decide +kernel, rfl, by decide +kernel, by decide +kernel⟩
abbrev s_l_is_written : Stmt := topS 22
theorem sc_l_is_written : FnScope ["_law_text", "_law_at", "_law_right"] ["_law_text"] (defScope s_l_is_written) := ⟨rfl, rfl, rfl, by decide +kernel, rfl, by decide +kernel, by decide +kernel⟩
abbrev s_l_made : Stmt := topS 23
theorem sc_l_made : FnScope ["_law_lines", "_law_joints", "e", "_law_line_here"] ["_law_lines"] (defScope s_l_made) := ⟨rfl, rfl, rfl, by decide +kernel, rfl, by decide +kernel, by decide +kernel⟩
abbrev s_l_refused : Stmt := topS 24
theorem sc_l_refused : FnScope ["_law_lines", "e"] ["_law_lines"] (defScope s_l_refused) := ⟨rfl, rfl, rfl, by decide +kernel, rfl, by decide +kernel, by decide +kernel⟩
abbrev s_law : Stmt := topS 25
theorem sc_law : FnScope ["_law_script", "_law_letters_here", "_law_many", "_law_lines", "_law_k", "_law_more", "_law_bad", "_law_line_here", "_law_due", "_law_handed", "_law_good", "_law_joints", "_law_other"] ["_law_script"] (defScope s_law) := ⟨rfl, rfl, rfl, by decide +kernel, rfl, by decide +kernel, by decide +kernel⟩
abbrev s_Joints_iter : Stmt := inClass (topS 11) 3
theorem sc_Joints_iter : FnScope ["self"] ["self"] (defScope s_Joints_iter) := ⟨rfl, rfl, rfl, by decide +kernel, rfl, by decide +kernel, by decide +kernel⟩
abbrev s_BadJoint : Stmt := inClass (topS 3) 0
theorem sc_BadJoint : FnScope ["self", "text"] ["self", "text"] (defScope s_BadJoint) := ⟨rfl, rfl, rfl, by decide +kernel, rfl, by decide +kernel, by decide +kernel⟩
abbrev s_TooLarge : Stmt := inClass (topS 2) 0
theorem sc_TooLarge : FnScope ["self", "many"] ["self", "many"] (defScope s_TooLarge) := ⟨rfl, rfl, rfl, by decide +kernel, rfl, by decide +kernel, by decide +kernel⟩
structure Txt (K : PySem.W.Frag) (mg : Str → Option Value) where
  f_is_part : Addr
  fd_is_part : FuncData
  F_is_part : Fun K "is_part" "is_part" s_is_part f_is_part fd_is_part
  g_is_part : mg "is_part" = some (.ref f_is_part)
  b_is_part : L2.Binds K fd_is_part ["text", "dot"] []
  f_read_joint : Addr
  fd_read_joint : FuncData
  F_read_joint : Fun K "read_joint" "read_joint" s_read_joint f_read_joint fd_read_joint
  g_read_joint : mg "read_joint" = some (.ref f_read_joint)
  b_read_joint : L2.Binds K fd_read_joint ["line"] []
  f_Joints_init : Addr
  fd_Joints_init : FuncData
  F_Joints_init : Fun K "__init__" "Joints.__init__" s_Joints_init f_Joints_init fd_Joints_init
  b_Joints_init : L2.Binds K fd_Joints_init ["self", "lines"] []
  f_Joints_len : Addr
  fd_Joints_len : FuncData
  F_Joints_len : Fun K "__len__" "Joints.__len__" s_Joints_len f_Joints_len fd_Joints_len
  b_Joints_len : L2.Binds K fd_Joints_len ["self"] []
  f_l_cell : Addr
  fd_l_cell : FuncData
  F_l_cell : Fun K "_law_cell" "_law_cell" s_l_cell f_l_cell fd_l_cell
  g_l_cell : mg "_law_cell" = some (.ref f_l_cell)
  b_l_cell : L2.Binds K fd_l_cell ["_law_script", "_law_k"] []
  f_l_row : Addr
  fd_l_row : FuncData
  F_l_row : Fun K "_law_row" "_law_row" s_l_row f_l_row fd_l_row
  g_l_row : mg "_law_row" = some (.ref f_l_row)
  b_l_row : L2.Binds K fd_l_row ["_law_cell_here", "_law_limits"] []
  f_l_same : Addr
  fd_l_same : FuncData
  F_l_same : Fun K "_law_same" "_law_same" s_l_same f_l_same fd_l_same
  g_l_same : mg "_law_same" = some (.ref f_l_same)
  b_l_same : L2.Binds K fd_l_same ["_law_one", "_law_two"] []
  f_l_letters : Addr
  fd_l_letters : FuncData
  F_l_letters : Fun K "_law_letters" "_law_letters" s_l_letters f_l_letters fd_l_letters
  g_l_letters : mg "_law_letters" = some (.ref f_l_letters)
  b_l_letters : L2.Binds K fd_l_letters ["_law_cell_here"] []
  f_l_joint : Addr
  fd_l_joint : FuncData
  F_l_joint : Fun K "_law_joint" "_law_joint" s_l_joint f_l_joint fd_l_joint
  g_l_joint : mg "_law_joint" = some (.ref f_l_joint)
  b_l_joint : L2.Binds K fd_l_joint ["_law_cell_here", "_law_letters_here", "_law_share"] []
  f_l_written : Addr
  fd_l_written : FuncData
  F_l_written : Fun K "_law_written" "_law_written" s_l_written f_l_written fd_l_written
  g_l_written : mg "_law_written" = some (.ref f_l_written)
  b_l_written : L2.Binds K fd_l_written ["_law_row_here"] []
  f_l_odd : Addr
  fd_l_odd : FuncData
  F_l_odd : Fun K "_law_odd" "_law_odd" s_l_odd f_l_odd fd_l_odd
  g_l_odd : mg "_law_odd" = some (.ref f_l_odd)
  b_l_odd : L2.Binds K fd_l_odd ["_law_pick"] []
  f_l_line : Addr
  fd_l_line : FuncData
  F_l_line : Fun K "_law_line" "_law_line" s_l_line f_l_line fd_l_line
  g_l_line : mg "_law_line" = some (.ref f_l_line)
  b_l_line : L2.Binds K fd_l_line ["_law_cell_here", "_law_more", "_law_letters_here"] []
  f_l_is_part : Addr
  fd_l_is_part : FuncData
  F_l_is_part : Fun K "_law_is_part" "_law_is_part" s_l_is_part f_l_is_part fd_l_is_part
  g_l_is_part : mg "_law_is_part" = some (.ref f_l_is_part)
  b_l_is_part : L2.Binds K fd_l_is_part ["_law_part", "_law_dot"] []
  f_l_is_written : Addr
  fd_l_is_written : FuncData
  F_l_is_written : Fun K "_law_is_written" "_law_is_written" s_l_is_written f_l_is_written fd_l_is_written
  g_l_is_written : mg "_law_is_written" = some (.ref f_l_is_written)
  b_l_is_written : L2.Binds K fd_l_is_written ["_law_text"] []
  f_l_made : Addr
  fd_l_made : FuncData
  F_l_made : Fun K "_law_made" "_law_made" s_l_made f_l_made fd_l_made
  g_l_made : mg "_law_made" = some (.ref f_l_made)
  b_l_made : L2.Binds K fd_l_made ["_law_lines"] []
  f_l_refused : Addr
  fd_l_refused : FuncData
  F_l_refused : Fun K "_law_refused" "_law_refused" s_l_refused f_l_refused fd_l_refused
  g_l_refused : mg "_law_refused" = some (.ref f_l_refused)
  b_l_refused : L2.Binds K fd_l_refused ["_law_lines"] []
  f_law : Addr
  fd_law : FuncData
  F_law : Fun K "law" "law" s_law f_law fd_law
  g_law : mg "law" = some (.ref f_law)
  b_law : L2.Binds K fd_law ["_law_script"] []
  f_Joints_iter : Addr
  fd_Joints_iter : FuncData
  F_Joints_iter : Fun K "__iter__" "Joints.__iter__" s_Joints_iter f_Joints_iter fd_Joints_iter
  b_Joints_iter : L2.Binds K fd_Joints_iter ["self"] []
  n_ValueError : mg "ValueError" = none
  n_bool : mg "bool" = none
  n_enumerate : mg "enumerate" = none
  n_int : mg "int" = none
  n_isinstance : mg "isinstance" = none
  n_iter : mg "iter" = none
  n_len : mg "len" = none
  n_list : mg "list" = none
  n_range : mg "range" = none
  n_sorted : mg "sorted" = none
  n_str : mg "str" = none
  n_tuple : mg "tuple" = none
  t_LETTERS : Tok
  c_LETTERS : mg "LETTERS" = some (.str "abcdefghijklmnopqrstuvwxyz" t_LETTERS)
  a_BadJoint : Addr
  g_BadJoint : mg "BadJoint" = some (.ref a_BadJoint)
  a_LaidError : Addr
  g_LaidError : mg "LaidError" = some (.ref a_LaidError)
  a_TooLarge : Addr
  g_TooLarge : mg "TooLarge" = some (.ref a_TooLarge)
  o_BadJoint : OexC K a_BadJoint
  fI_BadJoint : Addr
  fdI_BadJoint : FuncData
  i_BadJoint : PySem.W.findIn K (.ref a_BadJoint) "__init__" = some (some (.ref fI_BadJoint))
  ti_BadJoint : PySem.W.typeIn K (.ref fI_BadJoint) = some (.type "function")
  FI_BadJoint : Fun K "__init__" "BadJoint.__init__" s_BadJoint fI_BadJoint fdI_BadJoint
  b_BadJoint : L2.Binds K fdI_BadJoint ["self", "text"] []
  no_BadJoint_text : PySem.W.findIn K (.ref a_BadJoint) "text" = some none
  xf_BadJoint : XfC K a_BadJoint
  xc_BadJoint : ExcC K a_BadJoint
  e_BadJoint_BadJoint : PySem.W.exmOne K (.ref a_BadJoint) (.ref a_BadJoint) = some true
  e_BadJoint_LaidError : PySem.W.exmOne K (.ref a_BadJoint) (.ref a_LaidError) = some true
  e_BadJoint_TooLarge : PySem.W.exmOne K (.ref a_BadJoint) (.ref a_TooLarge) = some false
  q_BadJoint_BadJoint : PySem.W.kitOne K (.ref a_BadJoint) (.ref a_BadJoint) = some true
  q_BadJoint_ValueError : PySem.W.kitOne K (.ref a_BadJoint) (.type "ValueError") = some true
  o_TooLarge : OexC K a_TooLarge
  fI_TooLarge : Addr
  fdI_TooLarge : FuncData
  i_TooLarge : PySem.W.findIn K (.ref a_TooLarge) "__init__" = some (some (.ref fI_TooLarge))
  ti_TooLarge : PySem.W.typeIn K (.ref fI_TooLarge) = some (.type "function")
  FI_TooLarge : Fun K "__init__" "TooLarge.__init__" s_TooLarge fI_TooLarge fdI_TooLarge
  b_TooLarge : L2.Binds K fdI_TooLarge ["self", "many"] []
  no_TooLarge_many : PySem.W.findIn K (.ref a_TooLarge) "many" = some none
  xf_TooLarge : XfC K a_TooLarge
  xc_TooLarge : ExcC K a_TooLarge
  e_TooLarge_BadJoint : PySem.W.exmOne K (.ref a_TooLarge) (.ref a_BadJoint) = some false
  e_TooLarge_LaidError : PySem.W.exmOne K (.ref a_TooLarge) (.ref a_LaidError) = some true
  e_TooLarge_TooLarge : PySem.W.exmOne K (.ref a_TooLarge) (.ref a_TooLarge) = some true
  q_TooLarge_BadJoint : PySem.W.kitOne K (.ref a_TooLarge) (.ref a_BadJoint) = some false
  q_TooLarge_ValueError : PySem.W.kitOne K (.ref a_TooLarge) (.type "ValueError") = some true
  a_Joints : Addr
  g_Joints : mg "Joints" = some (.ref a_Joints)
  cl_Joints : L2.Cls K a_Joints
  mk_Joints : L2.Mk K a_Joints f_Joints_init
  na_Joints_lines : L2.NoAttr K a_Joints "lines"
  na_Joints_readings : L2.NoAttr K a_Joints "readings"
  m_Joints___iter__ : L2.Meth K a_Joints "__iter__" f_Joints_iter
  m_Joints___len__ : L2.Meth K a_Joints "__len__" f_Joints_len
  cr_Joints : ClX.CRead K a_Joints (.type "type")
  tv_Joints_MOST : Tok
  cv_Joints_MOST : ClX.CVal K a_Joints (.type "type") "MOST" (.int 8) (.int 8 tv_Joints_MOST)
def Txt.cm {K : PySem.W.Frag} {mg : Str → Option Value} (T : Txt K mg) : CM := fun n => if n = "BadJoint" then some T.a_BadJoint else if n = "TooLarge" then some T.a_TooLarge else if n = "Joints" then some T.a_Joints else none
section
variable {P : Program} {w : World} {K : PySem.W.Frag} {mg : Str → Option Value} {base : Heap}
theorem Txt.cm_BadJoint (T : Txt K mg) : T.cm "BadJoint" = some T.a_BadJoint := by unfold Txt.cm; rw [if_pos rfl]
theorem Txt.cm_TooLarge (T : Txt K mg) : T.cm "TooLarge" = some T.a_TooLarge := by unfold Txt.cm; rw [if_neg (by decide), if_pos rfl]
theorem Txt.cm_Joints (T : Txt K mg) : T.cm "Joints" = some T.a_Joints := by unfold Txt.cm; rw [if_neg (by decide), if_neg (by decide), if_pos rfl]
theorem Txt.exm_BadJoint (T : Txt K mg) : ∀ n C b, T.cm n = some C → isM_BadJoint n = some b → PySem.W.exmOne K (.ref C) (.ref T.a_BadJoint) = some b := by
  intro n C b h1 h2
  unfold Txt.cm at h1
  unfold isM_BadJoint at h2
  by_cases e0 : n = "BadJoint"
  · subst e0; simp at h1 h2; subst h1 h2; exact T.e_BadJoint_BadJoint
  by_cases e1 : n = "TooLarge"
  · subst e1; simp [e0] at h1 h2; subst h1 h2; exact T.e_TooLarge_BadJoint
  simp [e0, e1] at h2
theorem Txt.xf_of_BadJoint (T : Txt K mg) {C : Addr} (h : ∃ n, T.cm n = some C ∧ isM_BadJoint n = some true) : XfC K C := by
  obtain ⟨n, h1, h2⟩ := h
  unfold Txt.cm at h1
  unfold isM_BadJoint at h2
  by_cases e0 : n = "BadJoint"
  · subst e0; simp at h1; subst h1; exact T.xf_BadJoint
  by_cases e1 : n = "TooLarge"
  · subst e1; simp [e0] at h2
  simp [e0, e1] at h2
theorem Txt.no_of_BadJoint_text (T : Txt K mg) {C : Addr} (h : ∃ n, T.cm n = some C ∧ isM_BadJoint n = some true) : PySem.W.findIn K (.ref C) "text" = some none := by
  obtain ⟨n, h1, h2⟩ := h
  unfold Txt.cm at h1
  unfold isM_BadJoint at h2
  by_cases e0 : n = "BadJoint"
  · subst e0; simp at h1; subst h1; exact T.no_BadJoint_text
  by_cases e1 : n = "TooLarge"
  · subst e1; simp [e0] at h2
  simp [e0, e1] at h2
theorem Txt.exm_LaidError (T : Txt K mg) : ∀ n C b, T.cm n = some C → isM_LaidError n = some b → PySem.W.exmOne K (.ref C) (.ref T.a_LaidError) = some b := by
  intro n C b h1 h2
  unfold Txt.cm at h1
  unfold isM_LaidError at h2
  by_cases e0 : n = "BadJoint"
  · subst e0; simp at h1 h2; subst h1 h2; exact T.e_BadJoint_LaidError
  by_cases e1 : n = "TooLarge"
  · subst e1; simp [e0] at h1 h2; subst h1 h2; exact T.e_TooLarge_LaidError
  simp [e0, e1] at h2
theorem Txt.xc_of_LaidError (T : Txt K mg) {C : Addr} (h : ∃ n, T.cm n = some C ∧ isM_LaidError n = some true) : ExcC K C := by
  obtain ⟨n, h1, h2⟩ := h
  unfold Txt.cm at h1
  unfold isM_LaidError at h2
  by_cases e0 : n = "BadJoint"
  · subst e0; simp at h1; subst h1; exact T.xc_BadJoint
  by_cases e1 : n = "TooLarge"
  · subst e1; simp [e0] at h1; subst h1; exact T.xc_TooLarge
  simp [e0, e1] at h2
theorem Txt.exm_TooLarge (T : Txt K mg) : ∀ n C b, T.cm n = some C → isM_TooLarge n = some b → PySem.W.exmOne K (.ref C) (.ref T.a_TooLarge) = some b := by
  intro n C b h1 h2
  unfold Txt.cm at h1
  unfold isM_TooLarge at h2
  by_cases e0 : n = "BadJoint"
  · subst e0; simp at h1 h2; subst h1 h2; exact T.e_BadJoint_TooLarge
  by_cases e1 : n = "TooLarge"
  · subst e1; simp [e0] at h1 h2; subst h1 h2; exact T.e_TooLarge_TooLarge
  simp [e0, e1] at h2
theorem Txt.xf_of_TooLarge (T : Txt K mg) {C : Addr} (h : ∃ n, T.cm n = some C ∧ isM_TooLarge n = some true) : XfC K C := by
  obtain ⟨n, h1, h2⟩ := h
  unfold Txt.cm at h1
  unfold isM_TooLarge at h2
  by_cases e0 : n = "BadJoint"
  · subst e0; simp at h2
  by_cases e1 : n = "TooLarge"
  · subst e1; simp [e0] at h1; subst h1; exact T.xf_TooLarge
  simp [e0, e1] at h2
theorem Txt.xc_of_TooLarge (T : Txt K mg) {C : Addr} (h : ∃ n, T.cm n = some C ∧ isM_TooLarge n = some true) : ExcC K C := by
  obtain ⟨n, h1, h2⟩ := h
  unfold Txt.cm at h1
  unfold isM_TooLarge at h2
  by_cases e0 : n = "BadJoint"
  · subst e0; simp at h2
  by_cases e1 : n = "TooLarge"
  · subst e1; simp [e0] at h1; subst h1; exact T.xc_TooLarge
  simp [e0, e1] at h2
theorem Txt.no_of_TooLarge_many (T : Txt K mg) {C : Addr} (h : ∃ n, T.cm n = some C ∧ isM_TooLarge n = some true) : PySem.W.findIn K (.ref C) "many" = some none := by
  obtain ⟨n, h1, h2⟩ := h
  unfold Txt.cm at h1
  unfold isM_TooLarge at h2
  by_cases e0 : n = "BadJoint"
  · subst e0; simp at h2
  by_cases e1 : n = "TooLarge"
  · subst e1; simp [e0] at h1; subst h1; exact T.no_TooLarge_many
  simp [e0, e1] at h2
theorem Txt.isi_BadJoint (T : Txt K mg) : ∀ n C b, T.cm n = some C → isM_BadJoint n = some b → PySem.W.kitOne K (.ref C) (.ref T.a_BadJoint) = some b := by
  intro n C b h1 h2
  unfold Txt.cm at h1
  unfold isM_BadJoint at h2
  by_cases e0 : n = "BadJoint"
  · subst e0; simp at h1 h2; subst h1 h2; exact T.q_BadJoint_BadJoint
  by_cases e1 : n = "TooLarge"
  · subst e1; simp [e0] at h1 h2; subst h1 h2; exact T.q_TooLarge_BadJoint
  simp [e0, e1] at h2
theorem Txt.isi_ValueError (T : Txt K mg) : ∀ n C b, T.cm n = some C → isM_ValueError n = some b → PySem.W.kitOne K (.ref C) (.type "ValueError") = some b := by
  intro n C b h1 h2
  unfold Txt.cm at h1
  unfold isM_ValueError at h2
  by_cases e0 : n = "BadJoint"
  · subst e0; simp at h1 h2; subst h1 h2; exact T.q_BadJoint_ValueError
  by_cases e1 : n = "TooLarge"
  · subst e1; simp [e0] at h1 h2; subst h1 h2; exact T.q_TooLarge_ValueError
  simp [e0, e1] at h2
theorem ox_BadJoint (T : Txt K mg) : FnOk P w K mg base (L2.CX P w) 1 T.fI_BadJoint T.fdI_BadJoint ["self", "text"] (spX1 K T.a_BadJoint "text") := xinit1 T.FI_BadJoint sc_BadJoint rfl rfl fun cdv A outer s H E => pss_one (ps_ost (pv 0) (pv 1))
theorem ox_TooLarge (T : Txt K mg) : FnOk P w K mg base (L2.CX P w) 1 T.fI_TooLarge T.fdI_TooLarge ["self", "many"] (spX1 K T.a_TooLarge "many") := xinit1 T.FI_TooLarge sc_TooLarge rfl rfl fun cdv A outer s H E => pss_one (ps_ost (pv 0) (pv 1))
theorem ok_it_Joints (T : Txt K mg) : ItOk P w K mg base 1 T.f_Joints_iter T.a_Joints "lines" := iter_ok T.F_Joints_iter sc_Joints_iter rfl rfl T.cl_Joints T.na_Joints_lines T.b_Joints_iter fun cdv A outer s H E => pss_one (ps_ret (pe_callB ItX.call_iterN (by rfl) T.n_iter (by decide +kernel) (pa_cons (pe_fld (pv 0) rfl) pa_nil)))
theorem ok_ln_Joints (T : Txt K mg) : FnOk P w K mg base (L2.CX P w) 1 T.f_Joints_len T.fd_Joints_len ["self"] (spLn K T.a_Joints "lines") := len_ok T.F_Joints_len sc_Joints_len rfl rfl T.cl_Joints T.na_Joints_lines fun cdv A outer s H E => pss_one (ps_ret (pe_callB call_lenX (by rfl) T.n_len (by decide +kernel) (pa_cons (pe_fld (pv 0) rfl) pa_nil)))
theorem ok_is_part (T : Txt K mg) : FnOk P w K mg base (L2.CX P w) 1 T.f_is_part T.fd_is_part ["text", "dot"] (spD K T.cm [false, false] false F_is_part)   := dok (G' := []) (k := 0) T.F_is_part sc_is_part rfl (by decide) fun cdv A outer s H E hr =>
  (ds_cons (ds_if gok0 (dt_cmp or_gt os_ord (db_of (de_bltn call_len cs_len (by rfl) T.n_len (by decide +kernel) (dm_bor (db_var 0 (pv 0) (.inl (by rfl))) dm_nil))) (db_of de_int) (nomark _))
  (ds_one (ds_ret gok0 rfl de_bl))
  ds_nil)
  (ds_cons (ds_for gok0 (passes_of rfl) rfl (di_enumS T.n_enumerate (by rfl) (de_var 0 (pv 0) rfl)) (dg_tup rfl (dg_cons (dg_name 2 sc_is_part.nd rfl (by first | exact Or.inl rfl | exact Or.inr rfl)) (dg_cons (dg_name 3 sc_is_part.nd rfl (by first | exact Or.inl rfl | exact Or.inr rfl)) dg_nil)))
  (ds_one (ds_if gok0 (PW.pt (dw_and (dt_cmp (or_nin (hu65 hr)) os_nin (db_var 3 (pv 3) (.inl (by rfl))) (db_of (de_c (v := .str "abcdefghijklmnopqrstuvwxyz") (pe_glob (by rfl) T.c_LETTERS ⟨_, rfl⟩) fun _ => rp_lit (by decide +kernel))) (by rfl)) (dw_and (dt_cmp (or_ne hr.units) os_ne (db_var 3 (pv 3) (.inl (by rfl))) (db_of (de_strL (by decide +kernel))) (nomark _)) (dw_and1 (PW.pt (dw_or (dt_cmp (or_ne hr.units) os_ne (db_var 3 (pv 3) (.inl (by rfl))) (db_of (de_strL (by decide +kernel))) (nomark _)) (dw_or1 (dt_cmp (or_ne hr.units) os_ne (db_var 2 (pv 2) (.inl (by rfl))) (db_var 1 (pv 1) (.inl (by rfl))) (nomark _)))))))))
  (ds_one (ds_ret gok0 rfl de_bl))
  ds_nil)))
  (ds_one (ds_ret gok0 rfl de_bl))))
theorem ok_read_joint (T : Txt K mg) : FnOk P w K mg base (L2.CX P w) 3 T.f_read_joint T.fd_read_joint ["line"] (spD K T.cm [false] false F_read_joint)   := dok (G' := []) (k := 2) T.F_read_joint sc_read_joint rfl (by decide) fun cdv A outer s H E hr =>
  (ds_cons (ds_set 1 gok0 sc_read_joint.nd rfl (by first | exact Or.inl rfl | exact Or.inr rfl) (de_var 0 (pv 0) rfl))
  (ds_cons (ds_set 2 gok0 sc_read_joint.nd rfl (by first | exact Or.inl rfl | exact Or.inr rfl) (de_m1 PySem.F.slot_str_endswith PySem.F.type_str_endswith mt_endswith ms_end (db_var 0 (pv 0) (.inl (by rfl))) (db_of (de_strL (by decide +kernel)))))
  (ds_cons (ds_if gok0 (dt_tru (db_var 2 (pv 2) (.inl (by rfl))) (by intro _; rfl))
  (ds_one (ds_set 1 gok0 sc_read_joint.nd rfl (by first | exact Or.inl rfl | exact Or.inr rfl) (de_sl (db_var 0 (pv 0) (.inl (by rfl))) dp_none (dp_some (de_neg de_int)))))
  ds_nil)
  (ds_cons (ds_match2 3 4 gok0 rfl sc_read_joint.nd rfl rfl (by first | exact Or.inl rfl | exact Or.inr rfl) (by first | exact Or.inl rfl | exact Or.inr rfl) (de_pub (de_m1 PySem.F.slot_str_split PySem.F.type_str_split mt_split ms_split (db_var 1 (pv 1) (.inl (by rfl))) (db_of (de_strL (by decide +kernel))))) (ds_one (ds_if gok0 (PW.pt (dw_and (dt_val (de_callV (ok_is_part T) (takes_of rfl rfl rfl rfl) (hr.mono (by decide)) (by rfl) T.g_is_part T.F_is_part.kp T.b_is_part (dm_val (de_var 3 (pv 3) rfl) (dm_val de_int dm_nil)))) (dw_and1 (dt_val (de_callV (ok_is_part T) (takes_of rfl rfl rfl rfl) (hr.mono (by decide)) (by rfl) T.g_is_part T.F_is_part.kp T.b_is_part (dm_val (de_var 4 (pv 4) rfl) (dm_val (de_op op_sub os_sub (db_of (de_bltn call_len cs_len (by rfl) T.n_len (by decide +kernel) (dm_bor (db_var 4 (pv 4) (.inl (by rfl))) dm_nil))) (db_of de_int)) dm_nil)))))))
  (ds_one (ds_ret gok0 rfl (de_tup (da_cons (de_var 3 (pv 3) rfl) (da_cons (de_var 4 (pv 4) rfl) (da_cons (de_var 2 (pv 2) rfl) da_nil))))))
  ds_nil)))
  (ds_one (ds_raise1 gok0 T.cm_BadJoint rfl (takes_of rfl rfl rfl rfl) T.o_BadJoint T.i_BadJoint T.ti_BadJoint T.no_BadJoint_text (ox_BadJoint T) (hr.mono (by decide)) T.b_BadJoint (by rfl) T.g_BadJoint (da_cons (de_var 0 (pv 0) rfl) da_nil)))))))
theorem ok_Joints_init (T : Txt K mg) : FnOk P w K mg base (L2.CX P w) 4 T.f_Joints_init T.fd_Joints_init ["self", "lines"] (spI K T.cm T.a_Joints [true] F_Joints_init)   := dokI (k := 3) T.F_Joints_init sc_Joints_init T.cm_Joints rfl (by decide) (fun _ => rfl) fun cdv A outer s H E a hr =>
  (ds_cons (ds_if gok0 (dt_cmp or_gt os_ord (db_of (de_bltn call_len cs_len (by rfl) T.n_len (by decide +kernel) (dm_bor (db_var 1 (pv 1) (.inr (.inr (by rfl)))) dm_nil))) (db_of (de_cval (v := .int 8) (by rfl) T.g_Joints T.cr_Joints T.cv_Joints_MOST fun _ => .int _)) (nomark _))
  (ds_one (ds_raise1 gok0 T.cm_TooLarge rfl (takes_of rfl rfl rfl rfl) T.o_TooLarge T.i_TooLarge T.ti_TooLarge T.no_TooLarge_many (ox_TooLarge T) (hr.mono (by decide)) T.b_TooLarge (by rfl) T.g_TooLarge (da_cons (de_bltn call_len cs_len (by rfl) T.n_len (by decide +kernel) (dm_bor (db_var 1 (pv 1) (.inr (.inr (by rfl)))) dm_nil)) da_nil)))
  ds_nil)
  (ds_cons (ds_fst 0 gok0 T.cm_Joints T.cl_Joints T.na_Joints_readings trivial (pv 0) (de_pub (de_lcE (takes_of rfl rfl rfl rfl) (own := [("line", 2)]) rfl sc_Joints_init.nd (di_bor 1 (pv 1) rfl) (blkOk_by (own := [("line", 2)]) (N := ["self", "lines", "line"]) (sc := defScope s_Joints_init) (by decide +kernel)) (fun _ _ _ _ _ => (dg_name 2 sc_Joints_init.nd rfl (by first | exact Or.inl rfl | exact Or.inr rfl))) (fun _ _ _ _ _ => dt_nil) (fun _ _ _ _ _ _ hp => (de_callBV (ok_read_joint T) rfl hp (hr.mono (by decide)) (by rfl) T.g_read_joint T.F_read_joint.kp T.b_read_joint (dm_val (de_var 2 (pv 2) rfl) dm_nil))))))
  (ds_one (ds_fst 0 gok0 T.cm_Joints T.cl_Joints T.na_Joints_lines trivial (pv 0) (de_pub (de_type call_list_of cs_list (by rfl) T.n_list (by decide +kernel) (dm_bor (db_var 1 (pv 1) (.inr (.inr (by rfl)))) dm_nil)))))))
theorem ok_Joints_len (T : Txt K mg) : FnOk P w K mg base (L2.CX P w) 1 T.f_Joints_len T.fd_Joints_len ["self"] (spD K T.cm [true] false F_Joints_len)   := dok (G' := []) (k := 0) T.F_Joints_len sc_Joints_len rfl (by decide) fun cdv A outer s H E hr =>
  (ds_one (ds_ret gok0 rfl (de_bltn call_len cs_len (by rfl) T.n_len (by decide +kernel) (dm_bor (db_of (de_fld T.cm_Joints T.cl_Joints T.na_Joints_lines (db_var 0 (pv 0) (.inr (.inr (by rfl)))))) dm_nil))))
theorem ok_l_cell (T : Txt K mg) : FnOk P w K mg base (L2.CX P w) 1 T.f_l_cell T.fd_l_cell ["_law_script", "_law_k"] (spD K T.cm [false, false] false F_l_cell)   := dok (G' := []) (k := 0) T.F_l_cell sc_l_cell rfl (by decide) fun cdv A outer s H E hr =>
  (ds_cons (ds_if gok0 (dt_cmp or_lt os_ord (db_var 1 (pv 1) (.inl (by rfl))) (db_of (de_bltn call_len cs_len (by rfl) T.n_len (by decide +kernel) (dm_bor (db_var 0 (pv 0) (.inl (by rfl))) dm_nil))) (nomark _))
  (ds_one (ds_ret gok0 rfl (de_type cr_int cs_int (by rfl) T.n_int (by decide +kernel) (dm_bor (db_of (de_ix (db_var 0 (pv 0) (.inl (by rfl))) (db_var 1 (pv 1) (.inl (by rfl))) (fun _ _ => rfl))) dm_nil))))
  ds_nil)
  (ds_one (ds_ret gok0 rfl de_int)))
theorem ok_l_row (T : Txt K mg) : FnOk P w K mg base (L2.CX P w) 1 T.f_l_row T.fd_l_row ["_law_cell_here", "_law_limits"] (spD K T.cm [false, false] false F_l_row)   := dok (G' := []) (k := 0) T.F_l_row sc_l_row rfl (by decide) fun cdv A outer s H E hr =>
  (ds_cons (ds_setO 2 gok0 (show 2 < 7 by decide) sc_l_row.nd rfl (by first | exact Or.inl rfl | exact Or.inr rfl) (de_lst da_nil))
  (ds_cons (ds_if gok0 (dt_cmp or_ge os_ord (db_var 0 (pv 0) (.inl (by rfl))) (db_of de_int) (nomark _))
  (ds_cons (ds_set 3 gok0 sc_l_row.nd rfl (by first | exact Or.inl rfl | exact Or.inr rfl) (de_op op_sub os_sub (db_var 0 (pv 0) (.inl (by rfl))) (db_of de_int)))
  (ds_cons (ds_for gok0 (passes_of rfl) rfl (di_list (de_var 1 (pv 1) rfl)) (dg_name 4 sc_l_row.nd rfl (by first | exact Or.inl rfl | exact Or.inr rfl))
  (ds_cons (ds_app 2 gok0 rfl (pv 2) (de_op op_mod os_mod (db_of (de_type cr_int cs_int (by rfl) T.n_int (by decide +kernel) (dm_bor (db_var 3 (pv 3) (.inl (by rfl))) dm_nil))) (db_var 4 (pv 4) (.inl (by rfl)))))
  (ds_one (ds_set 3 gok0 sc_l_row.nd rfl (by first | exact Or.inl rfl | exact Or.inr rfl) (de_op or_fdiv os_fdiv (db_var 3 (pv 3) (.inl (by rfl))) (db_var 4 (pv 4) (.inl (by rfl))))))))
  (ds_pub 2 (ds_one (ds_ret gok0 rfl (de_var 2 (pv 2) rfl))) (.inl rfl))))
  ds_nil)
  (ds_cons (ds_for gok0 (passes_of rfl) rfl (di_rng1 T.n_range (by rfl) (da_cons (de_bltn call_len cs_len (by rfl) T.n_len (by decide +kernel) (dm_bor (db_var 1 (pv 1) (.inl (by rfl))) dm_nil)) da_nil)) (dg_name 5 sc_l_row.nd rfl (by first | exact Or.inl rfl | exact Or.inr rfl))
  (ds_cons (ds_set 6 gok0 sc_l_row.nd rfl (by first | exact Or.inl rfl | exact Or.inr rfl) (de_op op_mod os_mod (db_of (de_type cr_int cs_int (by rfl) T.n_int (by decide +kernel) (dm_bor (db_of (de_op or_add os_add (db_of (de_op or_add os_add (db_of (de_op or_mulX os_mulX (db_var 0 (pv 0) (.inl (by rfl))) (db_of de_int))) (db_of (de_op or_mulX os_mulX (db_var 5 (pv 5) (.inl (by rfl))) (db_of de_int))))) (db_of de_int))) dm_nil))) (db_of de_int)))
  (ds_cons (ds_set 6 gok0 sc_l_row.nd rfl (by first | exact Or.inl rfl | exact Or.inr rfl) (de_op op_mod os_mod (db_of (de_type cr_int cs_int (by rfl) T.n_int (by decide +kernel) (dm_bor (db_of (de_op or_add os_add (db_of (de_op or_add os_add (db_of (de_op or_mulX os_mulX (db_var 6 (pv 6) (.inl (by rfl))) (db_of (de_op or_add os_add (db_of de_int) (db_of (de_op or_mulX os_mulX (db_of de_int) (db_var 5 (pv 5) (.inl (by rfl))))))))) (db_of (de_op or_mulX os_mulX (db_of (de_op or_mulX os_mulX (db_var 5 (pv 5) (.inl (by rfl))) (db_var 5 (pv 5) (.inl (by rfl))))) (db_of de_int))))) (db_of de_int))) dm_nil))) (db_of de_int)))
  (ds_one (ds_app 2 gok0 rfl (pv 2) (de_op op_mod os_mod (db_of (de_type cr_int cs_int (by rfl) T.n_int (by decide +kernel) (dm_bor (db_of (de_op or_fdiv os_fdiv (db_var 6 (pv 6) (.inl (by rfl))) (db_of de_int))) dm_nil))) (db_of (de_ix (db_var 1 (pv 1) (.inl (by rfl))) (db_var 5 (pv 5) (.inl (by rfl))) (fun _ _ => rfl)))))))))
  (ds_pub 2 (ds_one (ds_ret gok0 rfl (de_var 2 (pv 2) rfl))) (.inl rfl)))))
theorem ok_l_same (T : Txt K mg) : ∀ {n : Nat}, FnOk P w K mg base (L2.CX P w) (1 + n) T.f_l_same T.fd_l_same ["_law_one", "_law_two"] (spD K T.cm [true, true] false (F_l_same n))
  | 0 => fnok_bad
  | n + 1 => dok (G' := []) (k := 1 + n) T.F_l_same sc_l_same rfl (by decide) fun cdv A outer s H E hr => by
    have ih := fun T => ok_l_same T (n := n)
    exact (ds_cons (ds_if gok0 (dt_cmp op_isN os_is (db_var 1 (pv 1) (.inr (.inr (by rfl)))) (db_of de_non) (nomark _))
  (ds_one (ds_ret gok0 rfl (de_cmp op_isN os_is (db_var 0 (pv 0) (.inr (.inr (by rfl)))) (db_of de_non) (nomark _))))
  ds_nil)
  (ds_cons (ds_if gok0 (dt_val (de_isi "bool" T.n_isinstance (by rfl) (by rfl) T.n_bool (by decide +kernel) (db_var 1 (pv 1) (.inr (.inr (by rfl))))))
  (ds_one (ds_ret gok0 rfl (de_and (de_isi "bool" T.n_isinstance (by rfl) (by rfl) T.n_bool (by decide +kernel) (db_var 0 (pv 0) (.inr (.inr (by rfl))))) (de_one (de_cmp (or_eq hr.units) os_eq (db_var 0 (pv 0) (.inr (.inr (by rfl)))) (db_var 1 (pv 1) (.inr (.inr (by rfl)))) (nomark _))))))
  ds_nil)
  (ds_cons (ds_if gok0 (dt_val (de_isi "int" T.n_isinstance (by rfl) (by rfl) T.n_int (by decide +kernel) (db_var 1 (pv 1) (.inr (.inr (by rfl))))))
  (ds_one (ds_ret gok0 rfl (de_and (de_isi "int" T.n_isinstance (by rfl) (by rfl) T.n_int (by decide +kernel) (db_var 0 (pv 0) (.inr (.inr (by rfl))))) (de_and (de_not (de_isi "bool" T.n_isinstance (by rfl) (by rfl) T.n_bool (by decide +kernel) (db_var 0 (pv 0) (.inr (.inr (by rfl)))))) (de_one (de_cmp (or_eq hr.units) os_eq (db_var 0 (pv 0) (.inr (.inr (by rfl)))) (db_var 1 (pv 1) (.inr (.inr (by rfl)))) (nomark _)))))))
  ds_nil)
  (ds_cons (ds_if gok0 (dt_val (de_isi "str" T.n_isinstance (by rfl) (by rfl) T.n_str (by decide +kernel) (db_var 1 (pv 1) (.inr (.inr (by rfl))))))
  (ds_one (ds_ret gok0 rfl (de_and (de_isi "str" T.n_isinstance (by rfl) (by rfl) T.n_str (by decide +kernel) (db_var 0 (pv 0) (.inr (.inr (by rfl))))) (de_one (de_cmp (or_eq hr.units) os_eq (db_var 0 (pv 0) (.inr (.inr (by rfl)))) (db_var 1 (pv 1) (.inr (.inr (by rfl)))) (nomark _))))))
  ds_nil)
  (ds_cons (ds_if gok0 (PW.pt (dw_and (dt_val (de_isi "tuple" T.n_isinstance (by rfl) (by rfl) T.n_tuple (by decide +kernel) (db_var 1 (pv 1) (.inr (.inr (by rfl)))))) (dw_and1 (dt_not (dt_val (de_isi "tuple" T.n_isinstance (by rfl) (by rfl) T.n_tuple (by decide +kernel) (db_var 0 (pv 0) (.inr (.inr (by rfl))))))))))
  (ds_one (ds_ret gok0 rfl de_bl))
  ds_nil)
  (ds_cons (ds_if gok0 (PW.pt (dw_and (dt_val (de_isi "list" T.n_isinstance (by rfl) (by rfl) T.n_list (by decide +kernel) (db_var 1 (pv 1) (.inr (.inr (by rfl)))))) (dw_and1 (dt_not (dt_val (de_isi "list" T.n_isinstance (by rfl) (by rfl) T.n_list (by decide +kernel) (db_var 0 (pv 0) (.inr (.inr (by rfl))))))))))
  (ds_one (ds_ret gok0 rfl de_bl))
  ds_nil)
  (ds_cons (ds_if gok0 (PW.pt (dw_or (dt_val (de_isi "tuple" T.n_isinstance (by rfl) (by rfl) T.n_tuple (by decide +kernel) (db_var 1 (pv 1) (.inr (.inr (by rfl)))))) (dw_or1 (dt_val (de_isi "list" T.n_isinstance (by rfl) (by rfl) T.n_list (by decide +kernel) (db_var 1 (pv 1) (.inr (.inr (by rfl)))))))))
  (ds_cons (ds_if gok0 (dt_cmp (or_ne hr.units) os_ne (db_of (de_bltn call_len cs_len (by rfl) T.n_len (by decide +kernel) (dm_bor (db_var 0 (pv 0) (.inr (.inr (by rfl)))) dm_nil))) (db_of (de_bltn call_len cs_len (by rfl) T.n_len (by decide +kernel) (dm_bor (db_var 1 (pv 1) (.inr (.inr (by rfl)))) dm_nil))) (nomark _))
  (ds_one (ds_ret gok0 rfl de_bl))
  ds_nil)
  (ds_cons (ds_for gok0 (passes_of rfl) rfl (di_rng1 T.n_range (by rfl) (da_cons (de_bltn call_len cs_len (by rfl) T.n_len (by decide +kernel) (dm_bor (db_var 1 (pv 1) (.inr (.inr (by rfl)))) dm_nil)) da_nil)) (dg_name 2 sc_l_same.nd rfl (by first | exact Or.inl rfl | exact Or.inr rfl))
  (ds_one (ds_if gok0 (dt_not (dt_val (de_callV (ih T) (takes_of rfl rfl rfl rfl) hr (by rfl) T.g_l_same T.F_l_same.kp T.b_l_same (dm_bor (db_of (de_ix (db_var 0 (pv 0) (.inr (.inr (by rfl)))) (db_var 2 (pv 2) (.inl (by rfl))) (fun _ _ => rfl))) (dm_bor (db_of (de_ix (db_var 1 (pv 1) (.inr (.inr (by rfl)))) (db_var 2 (pv 2) (.inl (by rfl))) (fun _ _ => rfl))) dm_nil)))))
  (ds_one (ds_ret gok0 rfl de_bl))
  ds_nil)))
  (ds_one (ds_ret gok0 rfl de_bl))))
  ds_nil)
  (ds_one (ds_ret gok0 rfl de_bl)))))))))
theorem ok_l_letters (T : Txt K mg) : FnOk P w K mg base (L2.CX P w) 2 T.f_l_letters T.fd_l_letters ["_law_cell_here"] (spD K T.cm [false] false F_l_letters)   := dok (G' := []) (k := 1) T.F_l_letters sc_l_letters rfl (by decide) fun cdv A outer s H E hr =>
  (ds_cons (ds_set 1 gok0 sc_l_letters.nd rfl (by first | exact Or.inl rfl | exact Or.inr rfl) (de_callV (ok_l_row T) (takes_of rfl rfl rfl rfl) (hr.mono (by decide)) (by rfl) T.g_l_row T.F_l_row.kp T.b_l_row (dm_val (de_var 0 (pv 0) rfl) (dm_val (de_pub (de_lst (da_cons de_int (da_cons de_int (da_cons de_int (da_cons de_int da_nil)))))) dm_nil))))
  (ds_cons (ds_set 2 gok0 sc_l_letters.nd rfl (by first | exact Or.inl rfl | exact Or.inr rfl) de_int)
  (ds_cons (ds_if gok0 (dt_cmp or_lt os_ord (db_of (de_ix (db_var 1 (pv 1) (.inl (by rfl))) (db_of de_int) (fun _ _ => rfl))) (db_of de_int) (nomark _))
  (ds_one (ds_set 2 gok0 sc_l_letters.nd rfl (by first | exact Or.inl rfl | exact Or.inr rfl) (de_op or_add os_add (db_of de_int) (db_of (de_op or_mulX os_mulX (db_of de_int) (db_of (de_ix (db_var 1 (pv 1) (.inl (by rfl))) (db_of de_int) (fun _ _ => rfl))))))))
  ds_nil)
  (ds_cons (ds_set 3 gok0 sc_l_letters.nd rfl (by first | exact Or.inl rfl | exact Or.inr rfl) (de_strL (by decide +kernel)))
  (ds_cons (ds_set 4 gok0 sc_l_letters.nd rfl (by first | exact Or.inl rfl | exact Or.inr rfl) (de_strL (by decide +kernel)))
  (ds_cons (ds_for gok0 (passes_of rfl) rfl (di_list (de_pub (de_bltn cr_sortedS cs_sortS (by rfl) T.n_sorted (by decide +kernel) (dm_bor (db_own (de_lc (own := [("_law_k", 6)]) rfl sc_l_letters.nd (di_rng1 T.n_range (by rfl) (da_cons (de_var 2 (pv 2) rfl) da_nil)) (blkOk_by (own := [("_law_k", 6)]) (N := ["_law_cell_here", "_law_row_here", "_law_many", "_law_alphabet", "_law_out", "_law_letter", "_law_k"]) (sc := defScope s_l_letters) (by decide +kernel)) (fun _ _ _ _ _ => (dg_name 6 sc_l_letters.nd rfl (by first | exact Or.inl rfl | exact Or.inr rfl))) (fun _ _ _ _ _ => dt_nil) (fun _ _ _ _ _ => (de_ix (db_var 3 (pv 3) (.inl (by rfl))) (db_of (de_ix (db_var 1 (pv 1) (.inl (by rfl))) (db_of (de_op or_add os_add (db_of de_int) (db_var 6 (pv 6) (.inl (by rfl))))) (fun _ _ => rfl))) (fun _ _ => rfl))))) dm_nil)))) (dg_name 5 sc_l_letters.nd rfl (by first | exact Or.inl rfl | exact Or.inr rfl))
  (ds_one (ds_if gok0 (dt_cmp (or_nin (hu65 hr)) os_nin (db_var 5 (pv 5) (.inl (by rfl))) (db_var 4 (pv 4) (.inl (by rfl))) (by rfl))
  (ds_one (ds_set 4 gok0 sc_l_letters.nd rfl (by first | exact Or.inl rfl | exact Or.inr rfl) (de_op or_add os_add (db_var 4 (pv 4) (.inl (by rfl))) (db_var 5 (pv 5) (.inl (by rfl))))))
  ds_nil)))
  (ds_one (ds_ret gok0 rfl (de_var 4 (pv 4) rfl)))))))))
theorem ok_l_joint (T : Txt K mg) : FnOk P w K mg base (L2.CX P w) 2 T.f_l_joint T.fd_l_joint ["_law_cell_here", "_law_letters_here", "_law_share"] (spD K T.cm [false, false, false] false F_l_joint)   := dok (G' := []) (k := 1) T.F_l_joint sc_l_joint rfl (by decide) fun cdv A outer s H E hr =>
  (ds_cons (ds_set 3 gok0 sc_l_joint.nd rfl (by first | exact Or.inl rfl | exact Or.inr rfl) (de_callV (ok_l_row T) (takes_of rfl rfl rfl rfl) (hr.mono (by decide)) (by rfl) T.g_l_row T.F_l_row.kp T.b_l_row (dm_val (de_var 0 (pv 0) rfl) (dm_val (de_pub (de_lst (da_cons de_int (da_cons de_int (da_cons de_int (da_cons de_int (da_cons de_int (da_cons de_int (da_cons de_int (da_cons de_int (da_cons de_int (da_cons de_int (da_cons de_int (da_cons de_int da_nil)))))))))))))) dm_nil))))
  (ds_cons (ds_set 4 gok0 sc_l_joint.nd rfl (by first | exact Or.inl rfl | exact Or.inr rfl) (de_strL (by decide +kernel)))
  (ds_cons (ds_set 5 gok0 sc_l_joint.nd rfl (by first | exact Or.inl rfl | exact Or.inr rfl) (de_op or_add os_add (db_var 1 (pv 1) (.inl (by rfl))) (db_var 1 (pv 1) (.inl (by rfl)))))
  (ds_cons (ds_set 5 gok0 sc_l_joint.nd rfl (by first | exact Or.inl rfl | exact Or.inr rfl) (de_op or_add os_add (db_of (de_op or_add os_add (db_of (de_sl (db_of (de_op or_add os_add (db_var 5 (pv 5) (.inl (by rfl))) (db_var 5 (pv 5) (.inl (by rfl))))) dp_none (dp_some de_int))) (db_of (de_strL (by decide +kernel))))) (db_of (de_ix (db_var 4 (pv 4) (.inl (by rfl))) (db_of (de_ix (db_var 3 (pv 3) (.inl (by rfl))) (db_of de_int) (fun _ _ => rfl))) (fun _ _ => rfl)))))
  (ds_cons (ds_set 6 gok0 sc_l_joint.nd rfl (by first | exact Or.inl rfl | exact Or.inr rfl) (de_m1 PySem.F.slot_str_join PySem.F.type_str_join mt_join ms_join (db_of (de_strL (by decide +kernel))) (db_own (de_lc (own := [("_law_k", 7)]) rfl sc_l_joint.nd (di_rng1 T.n_range (by rfl) (da_cons (de_ix (db_var 3 (pv 3) (.inl (by rfl))) (db_of de_int) (fun _ _ => rfl)) da_nil)) (blkOk_by (own := [("_law_k", 7)]) (N := ["_law_cell_here", "_law_letters_here", "_law_share", "_law_row_here", "_law_alphabet", "_law_menu", "_law_left", "_law_k", "_law_right"]) (sc := defScope s_l_joint) (by decide +kernel)) (fun _ _ _ _ _ => (dg_name 7 sc_l_joint.nd rfl (by first | exact Or.inl rfl | exact Or.inr rfl))) (fun _ _ _ _ _ => dt_nil) (fun _ _ _ _ _ => (de_ix (db_var 5 (pv 5) (.inl (by rfl))) (db_of (de_ix (db_var 3 (pv 3) (.inl (by rfl))) (db_of (de_op or_add os_add (db_of de_int) (db_var 7 (pv 7) (.inl (by rfl))))) (fun _ _ => rfl))) (fun _ _ => rfl)))))))
  (ds_cons (ds_set 8 gok0 sc_l_joint.nd rfl (by first | exact Or.inl rfl | exact Or.inr rfl) (de_m1 PySem.F.slot_str_join PySem.F.type_str_join mt_join ms_join (db_of (de_strL (by decide +kernel))) (db_own (de_lc (own := [("_law_k", 7)]) rfl sc_l_joint.nd (di_rng1 T.n_range (by rfl) (da_cons (de_ix (db_var 3 (pv 3) (.inl (by rfl))) (db_of de_int) (fun _ _ => rfl)) da_nil)) (blkOk_by (own := [("_law_k", 7)]) (N := ["_law_cell_here", "_law_letters_here", "_law_share", "_law_row_here", "_law_alphabet", "_law_menu", "_law_left", "_law_k", "_law_right"]) (sc := defScope s_l_joint) (by decide +kernel)) (fun _ _ _ _ _ => (dg_name 7 sc_l_joint.nd rfl (by first | exact Or.inl rfl | exact Or.inr rfl))) (fun _ _ _ _ _ => dt_nil) (fun _ _ _ _ _ => (de_ix (db_var 5 (pv 5) (.inl (by rfl))) (db_of (de_ix (db_var 3 (pv 3) (.inl (by rfl))) (db_of (de_op or_add os_add (db_of de_int) (db_var 7 (pv 7) (.inl (by rfl))))) (fun _ _ => rfl))) (fun _ _ => rfl)))))))
  (ds_cons (ds_if gok0 (PW.pt (dw_and (dt_cmp or_gt os_ord (db_of (de_ix (db_var 3 (pv 3) (.inl (by rfl))) (db_of de_int) (fun _ _ => rfl))) (db_of de_int) (nomark _)) (dw_and1 (dt_cmp (or_eq hr.units) os_eq (db_of (de_ix (db_var 3 (pv 3) (.inl (by rfl))) (db_of de_int) (fun _ _ => rfl))) (db_of de_int) (nomark _)))))
  (ds_one (ds_set 6 gok0 sc_l_joint.nd rfl (by first | exact Or.inl rfl | exact Or.inr rfl) (de_op or_add os_add (db_of (de_strL (by decide +kernel))) (db_of (de_sl (db_var 6 (pv 6) (.inl (by rfl))) (dp_some de_int) dp_none)))))
  ds_nil)
  (ds_cons (ds_if gok0 (PW.pt (dw_and (dt_cmp or_gt os_ord (db_of (de_ix (db_var 3 (pv 3) (.inl (by rfl))) (db_of de_int) (fun _ _ => rfl))) (db_of de_int) (nomark _)) (dw_and1 (dt_cmp (or_eq hr.units) os_eq (db_of (de_ix (db_var 3 (pv 3) (.inl (by rfl))) (db_of de_int) (fun _ _ => rfl))) (db_of de_int) (nomark _)))))
  (ds_one (ds_set 8 gok0 sc_l_joint.nd rfl (by first | exact Or.inl rfl | exact Or.inr rfl) (de_op or_add os_add (db_of (de_sl (db_var 8 (pv 8) (.inl (by rfl))) dp_none (dp_some (de_neg de_int)))) (db_of (de_strL (by decide +kernel))))))
  ds_nil)
  (ds_one (ds_ret gok0 rfl (de_tup (da_cons (de_var 6 (pv 6) rfl) (da_cons (de_var 8 (pv 8) rfl) (da_cons (de_cmp or_lt os_ord (db_of (de_ix (db_var 3 (pv 3) (.inl (by rfl))) (db_of de_int) (fun _ _ => rfl))) (db_var 2 (pv 2) (.inl (by rfl))) (nomark _)) da_nil))))))))))))))
theorem ok_l_written (T : Txt K mg) : FnOk P w K mg base (L2.CX P w) 1 T.f_l_written T.fd_l_written ["_law_row_here"] (spD K T.cm [false] false F_l_written)   := dok (G' := []) (k := 0) T.F_l_written sc_l_written rfl (by decide) fun cdv A outer s H E hr =>
  (ds_cons (ds_if gok0 (dt_tru (db_of (de_ix (db_var 0 (pv 0) (.inl (by rfl))) (db_of de_int) (fun _ _ => rfl))) (by intro _; rfl))
  (ds_one (ds_ret gok0 rfl (de_op or_add os_add (db_of (de_op or_add os_add (db_of (de_op or_add os_add (db_of (de_ix (db_var 0 (pv 0) (.inl (by rfl))) (db_of de_int) (fun _ _ => rfl))) (db_of (de_strL (by decide +kernel))))) (db_of (de_ix (db_var 0 (pv 0) (.inl (by rfl))) (db_of de_int) (fun _ _ => rfl))))) (db_of (de_strL (by decide +kernel))))))
  ds_nil)
  (ds_one (ds_ret gok0 rfl (de_op or_add os_add (db_of (de_op or_add os_add (db_of (de_ix (db_var 0 (pv 0) (.inl (by rfl))) (db_of de_int) (fun _ _ => rfl))) (db_of (de_strL (by decide +kernel))))) (db_of (de_ix (db_var 0 (pv 0) (.inl (by rfl))) (db_of de_int) (fun _ _ => rfl)))))))
theorem ok_l_odd (T : Txt K mg) : FnOk P w K mg base (L2.CX P w) 1 T.f_l_odd T.fd_l_odd ["_law_pick"] (spD K T.cm [false] false F_l_odd)   := dok (G' := []) (k := 0) T.F_l_odd sc_l_odd rfl (by decide) fun cdv A outer s H E hr =>
  (ds_cons (ds_set 1 gok0 sc_l_odd.nd rfl (by first | exact Or.inl rfl | exact Or.inr rfl) (de_pub (de_lst (da_cons (de_strL (by decide +kernel)) (da_cons (de_strL (by decide +kernel)) (da_cons (de_strL (by decide +kernel)) (da_cons (de_strL (by decide +kernel)) (da_cons (de_strL (by decide +kernel)) (da_cons (de_strL (by decide +kernel)) (da_cons (de_strL (by decide +kernel)) (da_cons (de_strL (by decide +kernel)) (da_cons (de_strL (by decide +kernel)) (da_cons (de_strL (by decide +kernel)) da_nil)))))))))))))
  (ds_cons (ds_set 1 gok0 sc_l_odd.nd rfl (by first | exact Or.inl rfl | exact Or.inr rfl) (de_op or_add os_add (db_var 1 (pv 1) (.inl (by rfl))) (db_own (de_lst (da_cons (de_strL (by decide +kernel)) (da_cons (de_strL (by decide +kernel)) (da_cons (de_strL (by decide +kernel)) (da_cons (de_strL (by decide +kernel)) (da_cons (de_strL (by decide +kernel)) (da_cons (de_strL (by decide +kernel)) (da_cons (de_strL (by decide +kernel)) (da_cons (de_strL (by decide +kernel)) (da_cons (de_strL (by decide +kernel)) (da_cons (de_strL (by decide +kernel)) da_nil))))))))))))))
  (ds_cons (ds_set 1 gok0 sc_l_odd.nd rfl (by first | exact Or.inl rfl | exact Or.inr rfl) (de_op or_add os_add (db_var 1 (pv 1) (.inl (by rfl))) (db_own (de_lst (da_cons (de_strL (by decide +kernel)) (da_cons (de_strL (by decide +kernel)) (da_cons (de_strL (by decide +kernel)) (da_cons (de_strL (by decide +kernel)) (da_cons (de_strL (by decide +kernel)) (da_cons (de_strL (by decide +kernel)) (da_cons (de_strL (by decide +kernel)) (da_cons (de_strL (by decide +kernel)) (da_cons (de_strL (by decide +kernel)) da_nil)))))))))))))
  (ds_cons (ds_set 1 gok0 sc_l_odd.nd rfl (by first | exact Or.inl rfl | exact Or.inr rfl) (de_op or_add os_add (db_var 1 (pv 1) (.inl (by rfl))) (db_own (de_lst (da_cons (de_strL (by decide +kernel)) (da_cons (de_strL (by decide +kernel)) (da_cons (de_strL (by decide +kernel)) (da_cons (de_strL (by decide +kernel)) (da_cons (de_strL (by decide +kernel)) (da_cons (de_strL (by decide +kernel)) (da_cons (de_strL (by decide +kernel)) (da_cons (de_strL (by decide +kernel)) (da_cons (de_strL (by decide +kernel)) da_nil)))))))))))))
  (ds_one (ds_ret gok0 rfl (de_ix (db_var 1 (pv 1) (.inl (by rfl))) (db_var 0 (pv 0) (.inl (by rfl))) (fun _ _ => rfl))))))))
theorem ok_l_line (T : Txt K mg) : FnOk P w K mg base (L2.CX P w) 3 T.f_l_line T.fd_l_line ["_law_cell_here", "_law_more", "_law_letters_here"] (spD K T.cm [false, false, false] false F_l_line)   := dok (G' := []) (k := 2) T.F_l_line sc_l_line rfl (by decide) fun cdv A outer s H E hr =>
  (ds_cons (ds_set 3 gok0 sc_l_line.nd rfl (by first | exact Or.inl rfl | exact Or.inr rfl) (de_callV (ok_l_written T) (takes_of rfl rfl rfl rfl) (hr.mono (by decide)) (by rfl) T.g_l_written T.F_l_written.kp T.b_l_written (dm_val (de_callV (ok_l_joint T) (takes_of rfl rfl rfl rfl) (hr.mono (by decide)) (by rfl) T.g_l_joint T.F_l_joint.kp T.b_l_joint (dm_val (de_var 0 (pv 0) rfl) (dm_val (de_var 2 (pv 2) rfl) (dm_val de_int dm_nil)))) dm_nil)))
  (ds_cons (ds_set 4 gok0 sc_l_line.nd rfl (by first | exact Or.inl rfl | exact Or.inr rfl) (de_callV (ok_l_row T) (takes_of rfl rfl rfl rfl) (hr.mono (by decide)) (by rfl) T.g_l_row T.F_l_row.kp T.b_l_row (dm_val (de_var 1 (pv 1) rfl) (dm_val (de_pub (de_lst (da_cons de_int (da_cons de_int (da_cons de_int (da_cons de_int (da_cons de_int da_nil))))))) dm_nil))))
  (ds_cons (ds_if gok0 (dt_cmp (or_eq hr.units) os_eq (db_of (de_ix (db_var 4 (pv 4) (.inl (by rfl))) (db_of de_int) (fun _ _ => rfl))) (db_of de_int) (nomark _))
  (ds_one (ds_ret gok0 rfl (de_callV (ok_l_odd T) (takes_of rfl rfl rfl rfl) (hr.mono (by decide)) (by rfl) T.g_l_odd T.F_l_odd.kp T.b_l_odd (dm_val (de_ix (db_var 4 (pv 4) (.inl (by rfl))) (db_of de_int) (fun _ _ => rfl)) dm_nil))))
  ds_nil)
  (ds_cons (ds_if gok0 (dt_cmp (or_eq hr.units) os_eq (db_of (de_ix (db_var 4 (pv 4) (.inl (by rfl))) (db_of de_int) (fun _ _ => rfl))) (db_of de_int) (nomark _))
  (ds_cons (ds_set 5 gok0 sc_l_line.nd rfl (by first | exact Or.inl rfl | exact Or.inr rfl) (de_op op_mod os_mod (db_of (de_type cr_int cs_int (by rfl) T.n_int (by decide +kernel) (dm_bor (db_of (de_ix (db_var 4 (pv 4) (.inl (by rfl))) (db_of de_int) (fun _ _ => rfl))) dm_nil))) (db_of (de_op or_add os_add (db_of (de_bltn call_len cs_len (by rfl) T.n_len (by decide +kernel) (dm_bor (db_var 3 (pv 3) (.inl (by rfl))) dm_nil))) (db_of de_int)))))
  (ds_cons (ds_set 6 gok0 sc_l_line.nd rfl (by first | exact Or.inl rfl | exact Or.inr rfl) (de_ix (db_of (de_strL (by decide +kernel))) (db_of (de_ix (db_var 4 (pv 4) (.inl (by rfl))) (db_of de_int) (fun _ _ => rfl))) (fun _ _ => rfl)))
  (ds_cons (ds_if gok0 (dt_cmp (or_eq hr.units) os_eq (db_of (de_ix (db_var 4 (pv 4) (.inl (by rfl))) (db_of de_int) (fun _ _ => rfl))) (db_of de_int) (nomark _))
  (ds_one (ds_ret gok0 rfl (de_op or_add os_add (db_of (de_op or_add os_add (db_of (de_sl (db_var 3 (pv 3) (.inl (by rfl))) dp_none (dp_some (de_var 5 (pv 5) rfl)))) (db_var 6 (pv 6) (.inl (by rfl))))) (db_of (de_sl (db_var 3 (pv 3) (.inl (by rfl))) (dp_some (de_var 5 (pv 5) rfl)) dp_none)))))
  ds_nil)
  (ds_cons (ds_if gok0 (dt_cmp (or_eq hr.units) os_eq (db_of (de_ix (db_var 4 (pv 4) (.inl (by rfl))) (db_of de_int) (fun _ _ => rfl))) (db_of de_int) (nomark _))
  (ds_one (ds_ret gok0 rfl (de_op or_add os_add (db_of (de_op or_add os_add (db_of (de_sl (db_var 3 (pv 3) (.inl (by rfl))) dp_none (dp_some (de_var 5 (pv 5) rfl)))) (db_var 6 (pv 6) (.inl (by rfl))))) (db_of (de_sl (db_var 3 (pv 3) (.inl (by rfl))) (dp_some (de_op or_add os_add (db_var 5 (pv 5) (.inl (by rfl))) (db_of de_int))) dp_none)))))
  ds_nil)
  (ds_one (ds_ret gok0 rfl (de_op or_add os_add (db_of (de_sl (db_var 3 (pv 3) (.inl (by rfl))) dp_none (dp_some (de_var 5 (pv 5) rfl)))) (db_of (de_sl (db_var 3 (pv 3) (.inl (by rfl))) (dp_some (de_op or_add os_add (db_var 5 (pv 5) (.inl (by rfl))) (db_of de_int))) dp_none)))))))))
  ds_nil)
  (ds_one (ds_ret gok0 rfl (de_var 3 (pv 3) rfl)))))))
theorem ok_l_is_part (T : Txt K mg) : FnOk P w K mg base (L2.CX P w) 1 T.f_l_is_part T.fd_l_is_part ["_law_part", "_law_dot"] (spD K T.cm [false, false] false F_l_is_part)   := dok (G' := []) (k := 0) T.F_l_is_part sc_l_is_part rfl (by decide) fun cdv A outer s H E hr =>
  (ds_cons (ds_if gok0 (dt_cmp or_gt os_ord (db_of (de_bltn call_len cs_len (by rfl) T.n_len (by decide +kernel) (dm_bor (db_var 0 (pv 0) (.inl (by rfl))) dm_nil))) (db_of de_int) (nomark _))
  (ds_one (ds_ret gok0 rfl de_bl))
  ds_nil)
  (ds_cons (ds_for gok0 (passes_of rfl) rfl (di_rng1 T.n_range (by rfl) (da_cons (de_bltn call_len cs_len (by rfl) T.n_len (by decide +kernel) (dm_bor (db_var 0 (pv 0) (.inl (by rfl))) dm_nil)) da_nil)) (dg_name 2 sc_l_is_part.nd rfl (by first | exact Or.inl rfl | exact Or.inr rfl))
  (ds_cons (ds_if gok0 (PW.pt (dw_and (dt_cmp (or_eq hr.units) os_eq (db_of (de_ix (db_var 0 (pv 0) (.inl (by rfl))) (db_var 2 (pv 2) (.inl (by rfl))) (fun _ _ => rfl))) (db_of (de_strL (by decide +kernel))) (nomark _)) (dw_and1 (dt_cmp (or_eq hr.units) os_eq (db_var 2 (pv 2) (.inl (by rfl))) (db_var 1 (pv 1) (.inl (by rfl))) (nomark _)))))
  (ds_one ds_cont)
  ds_nil)
  (ds_one (ds_if gok0 (dt_cmp (or_nin (hu65 hr)) os_nin (db_of (de_ix (db_var 0 (pv 0) (.inl (by rfl))) (db_var 2 (pv 2) (.inl (by rfl))) (fun _ _ => rfl))) (db_of (de_strL (by decide +kernel))) (by rfl))
  (ds_one (ds_ret gok0 rfl de_bl))
  ds_nil))))
  (ds_one (ds_ret gok0 rfl de_bl))))
theorem ok_l_is_written (T : Txt K mg) : FnOk P w K mg base (L2.CX P w) 2 T.f_l_is_written T.fd_l_is_written ["_law_text"] (spD K T.cm [false] false F_l_is_written)   := dok (G' := []) (k := 1) T.F_l_is_written sc_l_is_written rfl (by decide) fun cdv A outer s H E hr =>
  (ds_cons (ds_if gok0 (dt_cmp (or_eq hr.units) os_eq (db_of (de_sl (db_var 0 (pv 0) (.inl (by rfl))) (dp_some (de_neg de_int)) dp_none)) (db_of (de_strL (by decide +kernel))) (nomark _))
  (ds_one (ds_set 0 gok0 sc_l_is_written.nd rfl (by first | exact Or.inl rfl | exact Or.inr rfl) (de_sl (db_var 0 (pv 0) (.inl (by rfl))) dp_none (dp_some (de_neg de_int)))))
  ds_nil)
  (ds_cons (ds_set 1 gok0 sc_l_is_written.nd rfl (by first | exact Or.inl rfl | exact Or.inr rfl) (de_m1 PySem.F.slot_str_find PySem.F.type_str_find mt_find ms_find (db_var 0 (pv 0) (.inl (by rfl))) (db_of (de_strL (by decide +kernel)))))
  (ds_cons (ds_if gok0 (dt_cmp or_lt os_ord (db_var 1 (pv 1) (.inl (by rfl))) (db_of de_int) (nomark _))
  (ds_one (ds_ret gok0 rfl de_bl))
  ds_nil)
  (ds_cons (ds_set 2 gok0 sc_l_is_written.nd rfl (by first | exact Or.inl rfl | exact Or.inr rfl) (de_sl (db_var 0 (pv 0) (.inl (by rfl))) (dp_some (de_op or_add os_add (db_var 1 (pv 1) (.inl (by rfl))) (db_of de_int))) dp_none))
  (ds_one (ds_ret gok0 rfl (de_and (de_callV (ok_l_is_part T) (takes_of rfl rfl rfl rfl) (hr.mono (by decide)) (by rfl) T.g_l_is_part T.F_l_is_part.kp T.b_l_is_part (dm_val (de_sl (db_var 0 (pv 0) (.inl (by rfl))) dp_none (dp_some (de_var 1 (pv 1) rfl))) (dm_val de_int dm_nil))) (de_one (de_callV (ok_l_is_part T) (takes_of rfl rfl rfl rfl) (hr.mono (by decide)) (by rfl) T.g_l_is_part T.F_l_is_part.kp T.b_l_is_part (dm_val (de_var 2 (pv 2) rfl) (dm_val (de_op op_sub os_sub (db_of (de_bltn call_len cs_len (by rfl) T.n_len (by decide +kernel) (dm_bor (db_var 2 (pv 2) (.inl (by rfl))) dm_nil))) (db_of de_int)) dm_nil)))))))))))
theorem ok_l_made (T : Txt K mg) : FnOk P w K mg base (L2.CX P w) 6 T.f_l_made T.fd_l_made ["_law_lines"] (spD K T.cm [true] false F_l_made)   := dok (G' := []) (k := 5) T.F_l_made sc_l_made rfl (by decide) fun cdv A outer s H E hr =>
  (ds_cons (ds_try2 (isM := isM_TooLarge) (isM2 := isM_BadJoint) (Gs := [.b, .v, .v, .v]) (Gs2 := [.b, .v, .v, .v]) gok0 rfl rfl sc_l_made.nd rfl rfl ⟨by rfl, by decide, .inl T.g_TooLarge⟩ rfl rfl ⟨by rfl, by decide, .inl T.g_BadJoint⟩ (takes_of rfl rfl rfl rfl) (by decide) (by decide) T.exm_TooLarge T.exm_BadJoint (fun W pn xe tk po => (ds_one (ds_set 1 gokT sc_l_made.nd rfl (by first | exact Or.inl rfl | exact Or.inr rfl) (de_pub (de_make T.mk_Joints (ok_Joints_init T) tk (hr.mono (by decide)) (by rfl) T.g_Joints T.b_Joints_init (dm_bor (db_var 0 (pv 0) (.inr (.inr (by rfl)))) dm_nil))))))
  (fun a C dd oe pn hin hz hf => (ds_cons (ds_if gokC (dt_val (de_isX (v := .ref T.a_BadJoint) (cv := .ref T.a_BadJoint) (isM := isM_BadJoint) rfl (T.xc_of_TooLarge hin) hz hf (fun _ h => h) (fun n b h1 h2 => T.isi_BadJoint n _ b h1 h2) T.n_isinstance (by rfl) (pv 2) (pe_glob (by rfl) T.g_BadJoint rfl)))
  (ds_one (ds_ret gokC rfl (de_tup (da_cons (de_strL (by decide +kernel)) da_nil))))
  ds_nil)
  (ds_one (ds_ret gokC rfl (de_tup (da_cons (de_strL (by decide +kernel)) (da_cons (de_xf (T.xf_of_TooLarge hin) (T.no_of_TooLarge_many hin) rfl hz hf (pv 2)) da_nil)))))))
  (fun a C dd oe pn hin hz hf => (ds_one (ds_ret gokC rfl (de_tup (da_cons (de_strL (by decide +kernel)) (da_cons (de_xf (T.xf_of_BadJoint hin) (T.no_of_BadJoint_text hin) rfl hz hf (pv 2)) da_nil)))))) rfl rfl rfl rfl)
  (ds_one (ds_ret gok0 rfl (de_tup (da_cons (de_strL (by decide +kernel)) (da_cons (de_bltn (call_lenO T.m_Joints___len__ (ok_Joints_len T) (hr.mono (by decide)) T.b_Joints_len) (cs_lenO T.cm_Joints) (by rfl) T.n_len (by decide +kernel) (dm_bor (db_var 1 (pv 1) (.inl (by rfl))) dm_nil)) (da_cons (de_pub (de_type (call_listO T.m_Joints___iter__ (ok_it_Joints T) T.m_Joints___len__ (ok_ln_Joints T) T.b_Joints_len (hr.mono (by decide)) rfl) (cs_listO T.cm_Joints) (by rfl) T.n_list (by decide +kernel) (dm_bor (db_var 1 (pv 1) (.inl (by rfl))) dm_nil))) (da_cons (de_pub (de_lc (own := [("_law_line_here", 3)]) rfl sc_l_made.nd (di_own T.cm_Joints T.m_Joints___iter__ (ok_it_Joints T) (hr.mono (by decide)) (db_var 1 (pv 1) (.inl (by rfl)))) (blkOk_by (own := [("_law_line_here", 3)]) (N := ["_law_lines", "_law_joints", "e", "_law_line_here"]) (sc := defScope s_l_made) (by decide +kernel)) (fun _ _ _ _ _ => (dg_name 3 sc_l_made.nd rfl (by first | exact Or.inl rfl | exact Or.inr rfl))) (fun _ _ _ _ _ => dt_nil) (fun _ _ _ _ _ => (de_var 3 (pv 3) rfl)))) da_nil))))))))
theorem ok_l_refused (T : Txt K mg) : FnOk P w K mg base (L2.CX P w) 6 T.f_l_refused T.fd_l_refused ["_law_lines"] (spD K T.cm [true] false F_l_refused)   := dok (G' := []) (k := 5) T.F_l_refused sc_l_refused rfl (by decide) fun cdv A outer s H E hr =>
  (ds_cons (ds_try (isM := isM_LaidError) (Gs := [.b, .v]) gok0 rfl rfl sc_l_refused.nd rfl rfl ⟨by rfl, by decide, .inl T.g_LaidError⟩ (takes_of rfl rfl rfl rfl) (by decide) T.exm_LaidError (fun W pn xe tk po => (ds_one (ds_expr gokT (de_pub (de_make T.mk_Joints (ok_Joints_init T) tk (hr.mono (by decide)) (by rfl) T.g_Joints T.b_Joints_init (dm_bor (db_var 0 (pv 0) (.inr (.inr (by rfl)))) dm_nil))))))
  (fun a C dd oe pn hin hz hf => (ds_one (ds_ret gokC rfl (de_isX (v := .ty "ValueError") (cv := .type "ValueError") (isM := isM_ValueError) rfl (T.xc_of_LaidError hin) hz hf (fun _ h => h) (fun n b h1 h2 => T.isi_ValueError n _ b h1 h2) T.n_isinstance (by rfl) (pv 1) (pe_bltn (u := .type "ValueError") (by rfl) T.n_ValueError (by decide +kernel) rfl))))) rfl rfl)
  (ds_one (ds_ret gok0 rfl de_bl)))
theorem ok_law (T : Txt K mg) : FnOk P w K mg base (L2.CX P w) 10 T.f_law T.fd_law ["_law_script"] (spD K T.cm [false] false F_law)   := dok (G' := []) (k := 9) T.F_law sc_law rfl (by decide) fun cdv A outer s H E hr =>
  (ds_cons (ds_set 1 gok0 sc_law.nd rfl (by first | exact Or.inl rfl | exact Or.inr rfl) (de_callV (ok_l_letters T) (takes_of rfl rfl rfl rfl) (hr.mono (by decide)) (by rfl) T.g_l_letters T.F_l_letters.kp T.b_l_letters (dm_val (de_callV (ok_l_cell T) (takes_of rfl rfl rfl rfl) (hr.mono (by decide)) (by rfl) T.g_l_cell T.F_l_cell.kp T.b_l_cell (dm_val (de_var 0 (pv 0) rfl) (dm_val de_int dm_nil))) dm_nil)))
  (ds_cons (ds_set 2 gok0 sc_law.nd rfl (by first | exact Or.inl rfl | exact Or.inr rfl) (de_ix (db_of (de_callV (ok_l_row T) (takes_of rfl rfl rfl rfl) (hr.mono (by decide)) (by rfl) T.g_l_row T.F_l_row.kp T.b_l_row (dm_val (de_callV (ok_l_cell T) (takes_of rfl rfl rfl rfl) (hr.mono (by decide)) (by rfl) T.g_l_cell T.F_l_cell.kp T.b_l_cell (dm_val (de_var 0 (pv 0) rfl) (dm_val de_int dm_nil))) (dm_val (de_pub (de_lst (da_cons de_int da_nil))) dm_nil)))) (db_of de_int) (fun _ _ => rfl)))
  (ds_cons (ds_setO 3 gok0 (show 3 < 13 by decide) sc_law.nd rfl (by first | exact Or.inl rfl | exact Or.inr rfl) (de_lst da_nil))
  (ds_cons (ds_for gok0 (passes_of rfl) rfl (di_rng1 T.n_range (by rfl) (da_cons (de_var 2 (pv 2) rfl) da_nil)) (dg_name 4 sc_law.nd rfl (by first | exact Or.inl rfl | exact Or.inr rfl))
  (ds_cons (ds_set 5 gok0 sc_law.nd rfl (by first | exact Or.inl rfl | exact Or.inr rfl) (de_op or_add os_add (db_of (de_callV (ok_l_cell T) (takes_of rfl rfl rfl rfl) (hr.mono (by decide)) (by rfl) T.g_l_cell T.F_l_cell.kp T.b_l_cell (dm_val (de_var 0 (pv 0) rfl) (dm_val (de_op or_add os_add (db_of de_int) (db_var 4 (pv 4) (.inl (by rfl)))) dm_nil)))) (db_of (de_op or_mulX os_mulX (db_of de_int) (db_var 4 (pv 4) (.inl (by rfl)))))))
  (ds_one (ds_app 3 gok0 rfl (pv 3) (de_callV (ok_l_line T) (takes_of rfl rfl rfl rfl) (hr.mono (by decide)) (by rfl) T.g_l_line T.F_l_line.kp T.b_l_line (dm_val (de_op or_add os_add (db_of (de_callV (ok_l_cell T) (takes_of rfl rfl rfl rfl) (hr.mono (by decide)) (by rfl) T.g_l_cell T.F_l_cell.kp T.b_l_cell (dm_val (de_var 0 (pv 0) rfl) (dm_val (de_op or_add os_add (db_of de_int) (db_var 4 (pv 4) (.inl (by rfl)))) dm_nil)))) (db_var 4 (pv 4) (.inl (by rfl)))) (dm_val (de_var 5 (pv 5) rfl) (dm_val (de_var 1 (pv 1) rfl) dm_nil))))))))
  (ds_pub 3 (ds_cons (ds_setLc 6 gok0 (by decide) rfl sc_law.nd rfl rfl (sw_true rfl rfl rfl (by decide +kernel)) (own := [("_law_line_here", 7)]) (di_list (de_var 3 (pv 3) rfl)) (blkOk_by (own := [("_law_line_here", 7)]) (N := ["_law_script", "_law_letters_here", "_law_many", "_law_lines", "_law_k", "_law_more", "_law_bad", "_law_line_here", "_law_due", "_law_handed", "_law_good", "_law_joints", "_law_other"]) (sc := defScope s_law) (by decide +kernel)) (fun _ _ _ _ _ => (dg_name 7 sc_law.nd rfl (by first | exact Or.inl rfl | exact Or.inr rfl))) (fun _ _ _ _ _ => (dt_one (dt_not (dt_val (de_callV (ok_l_is_written T) takes0 (hr.mono (by decide)) (by rfl) T.g_l_is_written T.F_l_is_written.kp T.b_l_is_written (dm_val (de_var 7 (pv 7) rfl) dm_nil)))))) (fun _ _ _ _ _ => (de_var 7 (pv 7) rfl)))
  (ds_cons (ds_set 8 gok0 sc_law.nd rfl (by first | exact Or.inl rfl | exact Or.inr rfl) (de_tup (da_cons (de_strL (by decide +kernel)) (da_cons (de_var 2 (pv 2) rfl) (da_cons (de_pub (de_type call_list_of cs_list (by rfl) T.n_list (by decide +kernel) (dm_bor (db_var 3 (pv 3) (.inl (by rfl))) dm_nil))) (da_cons (de_pub (de_type call_list_of cs_list (by rfl) T.n_list (by decide +kernel) (dm_bor (db_var 3 (pv 3) (.inl (by rfl))) dm_nil))) da_nil))))))
  (ds_cons (ds_if gok0 (dt_cmp or_gt os_ord (db_var 2 (pv 2) (.inl (by rfl))) (db_of de_int) (nomark _))
  (ds_one (ds_set 8 gok0 sc_law.nd rfl (by first | exact Or.inl rfl | exact Or.inr rfl) (de_tup (da_cons (de_strL (by decide +kernel)) (da_cons (de_var 2 (pv 2) rfl) da_nil)))))
  (ds_one (ds_if gok0 (dt_cmp or_gt os_ord (db_of (de_bltn call_len cs_len (by rfl) T.n_len (by decide +kernel) (dm_bor (db_var 6 (pv 6) (.inr (.inl (by trivial)))) dm_nil))) (db_of de_int) (nomark _))
  (ds_one (ds_set 8 gok0 sc_law.nd rfl (by first | exact Or.inl rfl | exact Or.inr rfl) (de_tup (da_cons (de_strL (by decide +kernel)) (da_cons (de_ix (db_var 6 (pv 6) (.inr (.inl (by trivial)))) (db_of de_int) (fun _ _ => rfl)) da_nil)))))
  ds_nil)))
  (ds_cons (ds_setO 9 gok0 (show 9 < 13 by decide) sc_law.nd rfl (by first | exact Or.inl rfl | exact Or.inr rfl) (de_type call_list_of cs_list (by rfl) T.n_list (by decide +kernel) (dm_bor (db_var 3 (pv 3) (.inl (by rfl))) dm_nil)))
  (ds_cons (ds_if gok0 (PW.pt (dw_or (dt_not (dt_val (de_callV (ok_l_same (n := 8) T) (takes_of rfl rfl rfl rfl) (hr.mono (by decide)) (by rfl) T.g_l_same T.F_l_same.kp T.b_l_same (dm_bor (db_of (de_callV (ok_l_made T) (takes_of rfl rfl rfl rfl) (hr.mono (by decide)) (by rfl) T.g_l_made T.F_l_made.kp T.b_l_made (dm_bor (db_var 9 (pv 9) (.inr (.inl (by trivial)))) dm_nil))) (dm_bor (db_var 8 (pv 8) (.inl (by rfl))) dm_nil))))) (dw_or1 (dt_not (dt_val (de_callV (ok_l_same (n := 8) T) (takes_of rfl rfl rfl rfl) (hr.mono (by decide)) (by rfl) T.g_l_same T.F_l_same.kp T.b_l_same (dm_bor (db_var 9 (pv 9) (.inr (.inl (by trivial)))) (dm_bor (db_var 3 (pv 3) (.inl (by rfl))) dm_nil))))))))
  (ds_one (ds_ret gok0 rfl de_bl))
  ds_nil)
  (ds_cons (ds_if gok0 (PW.pt (dw_and (dt_cmp (or_ne hr.units) os_ne (db_of (de_ix (db_var 8 (pv 8) (.inl (by rfl))) (db_of de_int) (fun _ _ => rfl))) (db_of (de_strL (by decide +kernel))) (nomark _)) (dw_and1 (dt_not (dt_val (de_callV (ok_l_refused T) (takes_of rfl rfl rfl rfl) (hr.mono (by decide)) (by rfl) T.g_l_refused T.F_l_refused.kp T.b_l_refused (dm_bor (db_own (de_type call_list_of cs_list (by rfl) T.n_list (by decide +kernel) (dm_bor (db_var 3 (pv 3) (.inl (by rfl))) dm_nil))) dm_nil)))))))
  (ds_one (ds_ret gok0 rfl de_bl))
  ds_nil)
  (ds_cons (ds_setLc 10 gok0 (by decide) rfl sc_law.nd rfl rfl (sw_true rfl rfl rfl (by decide +kernel)) (own := [("_law_line_here", 7)]) (di_list (de_var 3 (pv 3) rfl)) (blkOk_by (own := [("_law_line_here", 7)]) (N := ["_law_script", "_law_letters_here", "_law_many", "_law_lines", "_law_k", "_law_more", "_law_bad", "_law_line_here", "_law_due", "_law_handed", "_law_good", "_law_joints", "_law_other"]) (sc := defScope s_law) (by decide +kernel)) (fun _ _ _ _ _ => (dg_name 7 sc_law.nd rfl (by first | exact Or.inl rfl | exact Or.inr rfl))) (fun _ _ _ _ _ => (dt_one (dt_val (de_callV (ok_l_is_written T) takes0 (hr.mono (by decide)) (by rfl) T.g_l_is_written T.F_l_is_written.kp T.b_l_is_written (dm_val (de_var 7 (pv 7) rfl) dm_nil))))) (fun _ _ _ _ _ => (de_var 7 (pv 7) rfl)))
  (ds_cons (ds_set 10 gok0 sc_law.nd rfl (by first | exact Or.inl rfl | exact Or.inr rfl) (de_sl (db_var 10 (pv 10) (.inr (.inl (by trivial)))) dp_none (dp_some de_int)))
  (ds_cons (ds_setO 9 gok0 (show 9 < 13 by decide) sc_law.nd rfl (by first | exact Or.inl rfl | exact Or.inr rfl) (de_type call_list_of cs_list (by rfl) T.n_list (by decide +kernel) (dm_bor (db_var 10 (pv 10) (.inl (by rfl))) dm_nil)))
  (ds_cons (ds_set 11 gok0 sc_law.nd rfl (by first | exact Or.inl rfl | exact Or.inr rfl) (de_pub (de_make T.mk_Joints (ok_Joints_init T) (takes_of rfl rfl rfl rfl) (hr.mono (by decide)) (by rfl) T.g_Joints T.b_Joints_init (dm_bor (db_var 9 (pv 9) (.inr (.inl (by trivial)))) dm_nil))))
  (ds_cons (ds_if gok0 (dt_not (dt_val (de_callV (ok_l_same (n := 8) T) (takes_of rfl rfl rfl rfl) (hr.mono (by decide)) (by rfl) T.g_l_same T.F_l_same.kp T.b_l_same (dm_bor (db_var 9 (pv 9) (.inr (.inl (by trivial)))) (dm_bor (db_var 10 (pv 10) (.inl (by rfl))) dm_nil)))))
  (ds_one (ds_ret gok0 rfl de_bl))
  ds_nil)
  (ds_cons (ds_app 9 gok0 rfl (pv 9) (de_strL (by decide +kernel)))
  (ds_cons (ds_sto 9 gok0 rfl (pv 9) de_int (de_strL (by decide +kernel)))
  (ds_cons (ds_if gok0 (dt_cmp (or_ne hr.units) os_ne (db_of (de_bltn (call_lenO T.m_Joints___len__ (ok_Joints_len T) (hr.mono (by decide)) T.b_Joints_len) (cs_lenO T.cm_Joints) (by rfl) T.n_len (by decide +kernel) (dm_bor (db_var 11 (pv 11) (.inl (by rfl))) dm_nil))) (db_of (de_bltn call_len cs_len (by rfl) T.n_len (by decide +kernel) (dm_bor (db_var 10 (pv 10) (.inl (by rfl))) dm_nil))) (nomark _))
  (ds_one (ds_ret gok0 rfl de_bl))
  ds_nil)
  (ds_cons (ds_if gok0 (dt_not (dt_val (de_callV (ok_l_same (n := 8) T) (takes_of rfl rfl rfl rfl) (hr.mono (by decide)) (by rfl) T.g_l_same T.F_l_same.kp T.b_l_same (dm_bor (db_own (de_type (call_listO T.m_Joints___iter__ (ok_it_Joints T) T.m_Joints___len__ (ok_ln_Joints T) T.b_Joints_len (hr.mono (by decide)) rfl) (cs_listO T.cm_Joints) (by rfl) T.n_list (by decide +kernel) (dm_bor (db_var 11 (pv 11) (.inl (by rfl))) dm_nil))) (dm_bor (db_var 10 (pv 10) (.inl (by rfl))) dm_nil)))))
  (ds_one (ds_ret gok0 rfl de_bl))
  ds_nil)
  (ds_cons (ds_set 12 gok0 sc_law.nd rfl (by first | exact Or.inl rfl | exact Or.inr rfl) (de_pub (de_make T.mk_Joints (ok_Joints_init T) (takes_of rfl rfl rfl rfl) (hr.mono (by decide)) (by rfl) T.g_Joints T.b_Joints_init (dm_bor (db_own (de_type call_list_of cs_list (by rfl) T.n_list (by decide +kernel) (dm_bor (db_of (de_sl (db_var 10 (pv 10) (.inl (by rfl))) (dp_some de_int) dp_none)) dm_nil))) dm_nil))))
  (ds_cons (ds_if gok0 (PW.pt (dw_or (dt_cmp (or_ne hr.units) os_ne (db_of (de_bltn (call_lenO T.m_Joints___len__ (ok_Joints_len T) (hr.mono (by decide)) T.b_Joints_len) (cs_lenO T.cm_Joints) (by rfl) T.n_len (by decide +kernel) (dm_bor (db_var 12 (pv 12) (.inl (by rfl))) dm_nil))) (db_of (de_bltn call_len cs_len (by rfl) T.n_len (by decide +kernel) (dm_bor (db_of (de_sl (db_var 10 (pv 10) (.inl (by rfl))) (dp_some de_int) dp_none)) dm_nil))) (nomark _)) (dw_or1 (dt_not (dt_val (de_callV (ok_l_same (n := 8) T) (takes_of rfl rfl rfl rfl) (hr.mono (by decide)) (by rfl) T.g_l_same T.F_l_same.kp T.b_l_same (dm_bor (db_own (de_type (call_listO T.m_Joints___iter__ (ok_it_Joints T) T.m_Joints___len__ (ok_ln_Joints T) T.b_Joints_len (hr.mono (by decide)) rfl) (cs_listO T.cm_Joints) (by rfl) T.n_list (by decide +kernel) (dm_bor (db_var 12 (pv 12) (.inl (by rfl))) dm_nil))) (dm_bor (db_of (de_sl (db_var 10 (pv 10) (.inl (by rfl))) (dp_some de_int) dp_none)) dm_nil))))))))
  (ds_one (ds_ret gok0 rfl de_bl))
  ds_nil)
  (ds_one (ds_ret gok0 rfl (de_callV (ok_l_same (n := 8) T) (takes_of rfl rfl rfl rfl) (hr.mono (by decide)) (by rfl) T.g_l_same T.F_l_same.kp T.b_l_same (dm_bor (db_own (de_type (call_listO T.m_Joints___iter__ (ok_it_Joints T) T.m_Joints___len__ (ok_ln_Joints T) T.b_Joints_len (hr.mono (by decide)) rfl) (cs_listO T.cm_Joints) (by rfl) T.n_list (by decide +kernel) (dm_bor (db_var 11 (pv 11) (.inl (by rfl))) dm_nil))) (dm_bor (db_var 10 (pv 10) (.inl (by rfl))) dm_nil)))))))))))))))))))))) (.inl rfl))))))
end
end Lk
end S_P_walk
section S_P_end
set_option Elab.async false
set_option linter.all false
set_option maxRecDepth 100000
set_option maxHeartbeats 4000000
namespace Lk
open PySem L2 Dx PySem.Spec PyProof.Rows
theorem txt_mk {K : PySem.W.Frag} {h : Heap} {mg : Str → Option Value} (X : K.In h) (G : h.Ns mainGlobals mg)
    {f0 : Addr} {oc0 kV0 dc0 pm0 cd0 ct0 : Value} {od0 an0 : Option Addr} {sl0 : Array (Option Value)}
    {f1 : Addr} {oc1 kV1 dc1 pm1 cd1 ct1 : Value} {od1 an1 : Option Addr} {sl1 : Array (Option Value)}
    {f2 : Addr} {oc2 kV2 dc2 pm2 cd2 ct2 : Value} {od2 an2 : Option Addr} {sl2 : Array (Option Value)}
    {f3 : Addr} {oc3 kV3 dc3 pm3 cd3 ct3 : Value} {od3 an3 : Option Addr} {sl3 : Array (Option Value)}
    {f4 : Addr} {oc4 kV4 dc4 pm4 cd4 ct4 : Value} {od4 an4 : Option Addr} {sl4 : Array (Option Value)}
    {f5 : Addr} {oc5 kV5 dc5 pm5 cd5 ct5 : Value} {od5 an5 : Option Addr} {sl5 : Array (Option Value)}
    {f6 : Addr} {oc6 kV6 dc6 pm6 cd6 ct6 : Value} {od6 an6 : Option Addr} {sl6 : Array (Option Value)}
    {f7 : Addr} {oc7 kV7 dc7 pm7 cd7 ct7 : Value} {od7 an7 : Option Addr} {sl7 : Array (Option Value)}
    {f8 : Addr} {oc8 kV8 dc8 pm8 cd8 ct8 : Value} {od8 an8 : Option Addr} {sl8 : Array (Option Value)}
    {f9 : Addr} {oc9 kV9 dc9 pm9 cd9 ct9 : Value} {od9 an9 : Option Addr} {sl9 : Array (Option Value)}
    {f10 : Addr} {oc10 kV10 dc10 pm10 cd10 ct10 : Value} {od10 an10 : Option Addr} {sl10 : Array (Option Value)}
    {f11 : Addr} {oc11 kV11 dc11 pm11 cd11 ct11 : Value} {od11 an11 : Option Addr} {sl11 : Array (Option Value)}
    {f12 : Addr} {oc12 kV12 dc12 pm12 cd12 ct12 : Value} {od12 an12 : Option Addr} {sl12 : Array (Option Value)}
    {f13 : Addr} {oc13 kV13 dc13 pm13 cd13 ct13 : Value} {od13 an13 : Option Addr} {sl13 : Array (Option Value)}
    {f14 : Addr} {oc14 kV14 dc14 pm14 cd14 ct14 : Value} {od14 an14 : Option Addr} {sl14 : Array (Option Value)}
    {f15 : Addr} {oc15 kV15 dc15 pm15 cd15 ct15 : Value} {od15 an15 : Option Addr} {sl15 : Array (Option Value)}
    {f16 : Addr} {oc16 kV16 dc16 pm16 cd16 ct16 : Value} {od16 an16 : Option Addr} {sl16 : Array (Option Value)}
    {f17 : Addr} {oc17 kV17 dc17 pm17 cd17 ct17 : Value} {od17 an17 : Option Addr} {sl17 : Array (Option Value)}
    {t_LETTERS : Tok}
    {A_BadJoint : Addr}
    {A_LaidError : Addr}
    {A_TooLarge : Addr}
    {nm_BadJoint qq_BadJoint : Str} {N_BadJoint fI_BadJoint : Addr} {bs_BadJoint bm_BadJoint : List Value} {sn_BadJoint : List Str} {sb_BadJoint : List Value} {ab_BadJoint : Bool} {co_BadJoint : Option Bool} {dd_BadJoint od_BadJoint an_BadJoint : Option Addr} {m0_BadJoint m1_BadJoint m2_BadJoint m3_BadJoint m5_BadJoint : Option Value} {oc_BadJoint kV_BadJoint dc_BadJoint pm_BadJoint cd_BadJoint ct_BadJoint : Value} {sl_BadJoint : Array (Option Value)}
    {nm_TooLarge qq_TooLarge : Str} {N_TooLarge fI_TooLarge : Addr} {bs_TooLarge bm_TooLarge : List Value} {sn_TooLarge : List Str} {sb_TooLarge : List Value} {ab_TooLarge : Bool} {co_TooLarge : Option Bool} {dd_TooLarge od_TooLarge an_TooLarge : Option Addr} {m0_TooLarge m1_TooLarge m2_TooLarge m3_TooLarge m5_TooLarge : Option Value} {oc_TooLarge kV_TooLarge dc_TooLarge pm_TooLarge cd_TooLarge ct_TooLarge : Value} {sl_TooLarge : Array (Option Value)}
    {A_Joints : Addr}
    {tv_Joints_MOST : Tok}
    (a0 : PySem.W.nsIn K mainGlobals "is_part" = some (some (.ref f0)))
    (l0 : K.lookup f0 = some ⟨oc0, od0, .func (PySem.W.fnOf "is_part" "is_part" (defArgs s_is_part) (defBody s_is_part) (defScope s_is_part) .none kV0 dc0 pm0 an0 cd0 ct0), sl0⟩) (c0 : PySem.W.codeIn K cd0 "is_part" = true) (k0 : PySem.W.keepIn K (.ref f0) = true)
    (a1 : PySem.W.nsIn K mainGlobals "read_joint" = some (some (.ref f1)))
    (l1 : K.lookup f1 = some ⟨oc1, od1, .func (PySem.W.fnOf "read_joint" "read_joint" (defArgs s_read_joint) (defBody s_read_joint) (defScope s_read_joint) .none kV1 dc1 pm1 an1 cd1 ct1), sl1⟩) (c1 : PySem.W.codeIn K cd1 "read_joint" = true) (k1 : PySem.W.keepIn K (.ref f1) = true)
    (l2 : K.lookup f2 = some ⟨oc2, od2, .func (PySem.W.fnOf "__init__" "Joints.__init__" (defArgs s_Joints_init) (defBody s_Joints_init) (defScope s_Joints_init) .none kV2 dc2 pm2 an2 cd2 ct2), sl2⟩) (c2 : PySem.W.codeIn K cd2 "Joints.__init__" = true) (k2 : PySem.W.keepIn K (.ref f2) = true)
    (l3 : K.lookup f3 = some ⟨oc3, od3, .func (PySem.W.fnOf "__len__" "Joints.__len__" (defArgs s_Joints_len) (defBody s_Joints_len) (defScope s_Joints_len) .none kV3 dc3 pm3 an3 cd3 ct3), sl3⟩) (c3 : PySem.W.codeIn K cd3 "Joints.__len__" = true) (k3 : PySem.W.keepIn K (.ref f3) = true)
    (a4 : PySem.W.nsIn K mainGlobals "_law_cell" = some (some (.ref f4)))
    (l4 : K.lookup f4 = some ⟨oc4, od4, .func (PySem.W.fnOf "_law_cell" "_law_cell" (defArgs s_l_cell) (defBody s_l_cell) (defScope s_l_cell) .none kV4 dc4 pm4 an4 cd4 ct4), sl4⟩) (c4 : PySem.W.codeIn K cd4 "_law_cell" = true) (k4 : PySem.W.keepIn K (.ref f4) = true)
    (a5 : PySem.W.nsIn K mainGlobals "_law_row" = some (some (.ref f5)))
    (l5 : K.lookup f5 = some ⟨oc5, od5, .func (PySem.W.fnOf "_law_row" "_law_row" (defArgs s_l_row) (defBody s_l_row) (defScope s_l_row) .none kV5 dc5 pm5 an5 cd5 ct5), sl5⟩) (c5 : PySem.W.codeIn K cd5 "_law_row" = true) (k5 : PySem.W.keepIn K (.ref f5) = true)
    (a6 : PySem.W.nsIn K mainGlobals "_law_same" = some (some (.ref f6)))
    (l6 : K.lookup f6 = some ⟨oc6, od6, .func (PySem.W.fnOf "_law_same" "_law_same" (defArgs s_l_same) (defBody s_l_same) (defScope s_l_same) .none kV6 dc6 pm6 an6 cd6 ct6), sl6⟩) (c6 : PySem.W.codeIn K cd6 "_law_same" = true) (k6 : PySem.W.keepIn K (.ref f6) = true)
    (a7 : PySem.W.nsIn K mainGlobals "_law_letters" = some (some (.ref f7)))
    (l7 : K.lookup f7 = some ⟨oc7, od7, .func (PySem.W.fnOf "_law_letters" "_law_letters" (defArgs s_l_letters) (defBody s_l_letters) (defScope s_l_letters) .none kV7 dc7 pm7 an7 cd7 ct7), sl7⟩) (c7 : PySem.W.codeIn K cd7 "_law_letters" = true) (k7 : PySem.W.keepIn K (.ref f7) = true)
    (a8 : PySem.W.nsIn K mainGlobals "_law_joint" = some (some (.ref f8)))
    (l8 : K.lookup f8 = some ⟨oc8, od8, .func (PySem.W.fnOf "_law_joint" "_law_joint" (defArgs s_l_joint) (defBody s_l_joint) (defScope s_l_joint) .none kV8 dc8 pm8 an8 cd8 ct8), sl8⟩) (c8 : PySem.W.codeIn K cd8 "_law_joint" = true) (k8 : PySem.W.keepIn K (.ref f8) = true)
    (a9 : PySem.W.nsIn K mainGlobals "_law_written" = some (some (.ref f9)))
    (l9 : K.lookup f9 = some ⟨oc9, od9, .func (PySem.W.fnOf "_law_written" "_law_written" (defArgs s_l_written) (defBody s_l_written) (defScope s_l_written) .none kV9 dc9 pm9 an9 cd9 ct9), sl9⟩) (c9 : PySem.W.codeIn K cd9 "_law_written" = true) (k9 : PySem.W.keepIn K (.ref f9) = true)
    (a10 : PySem.W.nsIn K mainGlobals "_law_odd" = some (some (.ref f10)))
    (l10 : K.lookup f10 = some ⟨oc10, od10, .func (PySem.W.fnOf "_law_odd" "_law_odd" (defArgs s_l_odd) (defBody s_l_odd) (defScope s_l_odd) .none kV10 dc10 pm10 an10 cd10 ct10), sl10⟩) (c10 : PySem.W.codeIn K cd10 "_law_odd" = true) (k10 : PySem.W.keepIn K (.ref f10) = true)
    (a11 : PySem.W.nsIn K mainGlobals "_law_line" = some (some (.ref f11)))
    (l11 : K.lookup f11 = some ⟨oc11, od11, .func (PySem.W.fnOf "_law_line" "_law_line" (defArgs s_l_line) (defBody s_l_line) (defScope s_l_line) .none kV11 dc11 pm11 an11 cd11 ct11), sl11⟩) (c11 : PySem.W.codeIn K cd11 "_law_line" = true) (k11 : PySem.W.keepIn K (.ref f11) = true)
    (a12 : PySem.W.nsIn K mainGlobals "_law_is_part" = some (some (.ref f12)))
    (l12 : K.lookup f12 = some ⟨oc12, od12, .func (PySem.W.fnOf "_law_is_part" "_law_is_part" (defArgs s_l_is_part) (defBody s_l_is_part) (defScope s_l_is_part) .none kV12 dc12 pm12 an12 cd12 ct12), sl12⟩) (c12 : PySem.W.codeIn K cd12 "_law_is_part" = true) (k12 : PySem.W.keepIn K (.ref f12) = true)
    (a13 : PySem.W.nsIn K mainGlobals "_law_is_written" = some (some (.ref f13)))
    (l13 : K.lookup f13 = some ⟨oc13, od13, .func (PySem.W.fnOf "_law_is_written" "_law_is_written" (defArgs s_l_is_written) (defBody s_l_is_written) (defScope s_l_is_written) .none kV13 dc13 pm13 an13 cd13 ct13), sl13⟩) (c13 : PySem.W.codeIn K cd13 "_law_is_written" = true) (k13 : PySem.W.keepIn K (.ref f13) = true)
    (a14 : PySem.W.nsIn K mainGlobals "_law_made" = some (some (.ref f14)))
    (l14 : K.lookup f14 = some ⟨oc14, od14, .func (PySem.W.fnOf "_law_made" "_law_made" (defArgs s_l_made) (defBody s_l_made) (defScope s_l_made) .none kV14 dc14 pm14 an14 cd14 ct14), sl14⟩) (c14 : PySem.W.codeIn K cd14 "_law_made" = true) (k14 : PySem.W.keepIn K (.ref f14) = true)
    (a15 : PySem.W.nsIn K mainGlobals "_law_refused" = some (some (.ref f15)))
    (l15 : K.lookup f15 = some ⟨oc15, od15, .func (PySem.W.fnOf "_law_refused" "_law_refused" (defArgs s_l_refused) (defBody s_l_refused) (defScope s_l_refused) .none kV15 dc15 pm15 an15 cd15 ct15), sl15⟩) (c15 : PySem.W.codeIn K cd15 "_law_refused" = true) (k15 : PySem.W.keepIn K (.ref f15) = true)
    (a16 : PySem.W.nsIn K mainGlobals "law" = some (some (.ref f16)))
    (l16 : K.lookup f16 = some ⟨oc16, od16, .func (PySem.W.fnOf "law" "law" (defArgs s_law) (defBody s_law) (defScope s_law) .none kV16 dc16 pm16 an16 cd16 ct16), sl16⟩) (c16 : PySem.W.codeIn K cd16 "law" = true) (k16 : PySem.W.keepIn K (.ref f16) = true)
    (l17 : K.lookup f17 = some ⟨oc17, od17, .func (PySem.W.fnOf "__iter__" "Joints.__iter__" (defArgs s_Joints_iter) (defBody s_Joints_iter) (defScope s_Joints_iter) .none kV17 dc17 pm17 an17 cd17 ct17), sl17⟩) (c17 : PySem.W.codeIn K cd17 "Joints.__iter__" = true) (k17 : PySem.W.keepIn K (.ref f17) = true)
    (z_ValueError : PySem.W.nsIn K mainGlobals "ValueError" = some none)
    (z_bool : PySem.W.nsIn K mainGlobals "bool" = some none)
    (z_enumerate : PySem.W.nsIn K mainGlobals "enumerate" = some none)
    (z_int : PySem.W.nsIn K mainGlobals "int" = some none)
    (z_isinstance : PySem.W.nsIn K mainGlobals "isinstance" = some none)
    (z_iter : PySem.W.nsIn K mainGlobals "iter" = some none)
    (z_len : PySem.W.nsIn K mainGlobals "len" = some none)
    (z_list : PySem.W.nsIn K mainGlobals "list" = some none)
    (z_range : PySem.W.nsIn K mainGlobals "range" = some none)
    (z_sorted : PySem.W.nsIn K mainGlobals "sorted" = some none)
    (z_str : PySem.W.nsIn K mainGlobals "str" = some none)
    (z_tuple : PySem.W.nsIn K mainGlobals "tuple" = some none)
    (y_LETTERS : PySem.W.nsIn K mainGlobals "LETTERS" = some (some (.str "abcdefghijklmnopqrstuvwxyz" t_LETTERS)))
    (x_BadJoint : PySem.W.nsIn K mainGlobals "BadJoint" = some (some (.ref A_BadJoint)))
    (x_LaidError : PySem.W.nsIn K mainGlobals "LaidError" = some (some (.ref A_LaidError)))
    (x_TooLarge : PySem.W.nsIn K mainGlobals "TooLarge" = some (some (.ref A_TooLarge)))
    (X1_BadJoint : K.lookup A_BadJoint = some (excClassObj nm_BadJoint qq_BadJoint A_BadJoint N_BadJoint bs_BadJoint bm_BadJoint true sn_BadJoint sb_BadJoint ab_BadJoint co_BadJoint dd_BadJoint m0_BadJoint m1_BadJoint m2_BadJoint m3_BadJoint m5_BadJoint "ValueError.__new__")) (X2_BadJoint : PySem.HandSPX.refsVE bm_BadJoint = true)
    (X3_BadJoint : PySem.W.findIn K (.ref A_BadJoint) "__setattr__" = some (some (.builtin "object.__setattr__"))) (X4_BadJoint : PySem.W.subIn K (.ref A_BadJoint) (.type "BaseException") = some true) (X5_BadJoint : PySem.W.typeIn K (.ref A_BadJoint) = some (.type "type")) (X6_BadJoint : PySem.W.keepIn K (.ref A_BadJoint) = true)
    (X7_BadJoint : PySem.W.findIn K (.ref A_BadJoint) "__init__" = some (some (.ref fI_BadJoint))) (X8_BadJoint : PySem.W.typeIn K (.ref fI_BadJoint) = some (.type "function")) (X9_BadJoint : K.lookup fI_BadJoint = some ⟨oc_BadJoint, od_BadJoint, .func (PySem.W.fnOf "__init__" "BadJoint.__init__" (defArgs s_BadJoint) (defBody s_BadJoint) (defScope s_BadJoint) .none kV_BadJoint dc_BadJoint pm_BadJoint an_BadJoint cd_BadJoint ct_BadJoint), sl_BadJoint⟩) (Xa_BadJoint : PySem.W.codeIn K cd_BadJoint "BadJoint.__init__" = true) (Xb_BadJoint : PySem.W.keepIn K (.ref fI_BadJoint) = true)
    (Y0_BadJoint : PySem.W.findIn K (.ref A_BadJoint) "text" = some none)
    (Xc_BadJoint : PySem.W.findIn K (.ref A_BadJoint) "__getattribute__" = some (some (.builtin "BaseException.__getattribute__"))) (Xd_BadJoint : PySem.W.findIn K (.ref A_BadJoint) "__getattr__" = some none) (Xe_BadJoint : PySem.W.hasDictIn K A_BadJoint = true)
    (Xf_BadJoint : PySem.W.findIn K (.ref A_BadJoint) "__class__" = some (some (.builtin "object.__class__"))) (Xg_BadJoint : PySem.W.specialIn K (.builtin "object.__class__") "__get__" = some (some (.builtin "getset_descriptor.__get__"))) (Xh_BadJoint : PySem.W.takesIn K (.builtin "object.__class__") = some true) (Xi_BadJoint : PySem.W.mroIn K A_BadJoint (.type "object") = some true)
    (E_BadJoint_BadJoint : PySem.W.exmOne K (.ref A_BadJoint) (.ref A_BadJoint) = some true)
    (E_BadJoint_LaidError : PySem.W.exmOne K (.ref A_BadJoint) (.ref A_LaidError) = some true)
    (E_BadJoint_TooLarge : PySem.W.exmOne K (.ref A_BadJoint) (.ref A_TooLarge) = some false)
    (Q_BadJoint_BadJoint : PySem.W.kitOne K (.ref A_BadJoint) (.ref A_BadJoint) = some true)
    (Q_BadJoint_ValueError : PySem.W.kitOne K (.ref A_BadJoint) (.type "ValueError") = some true)
    (X1_TooLarge : K.lookup A_TooLarge = some (excClassObj nm_TooLarge qq_TooLarge A_TooLarge N_TooLarge bs_TooLarge bm_TooLarge true sn_TooLarge sb_TooLarge ab_TooLarge co_TooLarge dd_TooLarge m0_TooLarge m1_TooLarge m2_TooLarge m3_TooLarge m5_TooLarge "ValueError.__new__")) (X2_TooLarge : PySem.HandSPX.refsVE bm_TooLarge = true)
    (X3_TooLarge : PySem.W.findIn K (.ref A_TooLarge) "__setattr__" = some (some (.builtin "object.__setattr__"))) (X4_TooLarge : PySem.W.subIn K (.ref A_TooLarge) (.type "BaseException") = some true) (X5_TooLarge : PySem.W.typeIn K (.ref A_TooLarge) = some (.type "type")) (X6_TooLarge : PySem.W.keepIn K (.ref A_TooLarge) = true)
    (X7_TooLarge : PySem.W.findIn K (.ref A_TooLarge) "__init__" = some (some (.ref fI_TooLarge))) (X8_TooLarge : PySem.W.typeIn K (.ref fI_TooLarge) = some (.type "function")) (X9_TooLarge : K.lookup fI_TooLarge = some ⟨oc_TooLarge, od_TooLarge, .func (PySem.W.fnOf "__init__" "TooLarge.__init__" (defArgs s_TooLarge) (defBody s_TooLarge) (defScope s_TooLarge) .none kV_TooLarge dc_TooLarge pm_TooLarge an_TooLarge cd_TooLarge ct_TooLarge), sl_TooLarge⟩) (Xa_TooLarge : PySem.W.codeIn K cd_TooLarge "TooLarge.__init__" = true) (Xb_TooLarge : PySem.W.keepIn K (.ref fI_TooLarge) = true)
    (Y0_TooLarge : PySem.W.findIn K (.ref A_TooLarge) "many" = some none)
    (Xc_TooLarge : PySem.W.findIn K (.ref A_TooLarge) "__getattribute__" = some (some (.builtin "BaseException.__getattribute__"))) (Xd_TooLarge : PySem.W.findIn K (.ref A_TooLarge) "__getattr__" = some none) (Xe_TooLarge : PySem.W.hasDictIn K A_TooLarge = true)
    (Xf_TooLarge : PySem.W.findIn K (.ref A_TooLarge) "__class__" = some (some (.builtin "object.__class__"))) (Xg_TooLarge : PySem.W.specialIn K (.builtin "object.__class__") "__get__" = some (some (.builtin "getset_descriptor.__get__"))) (Xh_TooLarge : PySem.W.takesIn K (.builtin "object.__class__") = some true) (Xi_TooLarge : PySem.W.mroIn K A_TooLarge (.type "object") = some true)
    (E_TooLarge_BadJoint : PySem.W.exmOne K (.ref A_TooLarge) (.ref A_BadJoint) = some false)
    (E_TooLarge_LaidError : PySem.W.exmOne K (.ref A_TooLarge) (.ref A_LaidError) = some true)
    (E_TooLarge_TooLarge : PySem.W.exmOne K (.ref A_TooLarge) (.ref A_TooLarge) = some true)
    (Q_TooLarge_BadJoint : PySem.W.kitOne K (.ref A_TooLarge) (.ref A_BadJoint) = some false)
    (Q_TooLarge_ValueError : PySem.W.kitOne K (.ref A_TooLarge) (.type "ValueError") = some true)
    (x_Joints : PySem.W.nsIn K mainGlobals "Joints" = some (some (.ref A_Joints))) (P1_Joints : PySem.W.plainGet K A_Joints Str.empty = true) (P2_Joints : PySem.W.hasDictIn K A_Joints = true) (P3_Joints : PySem.W.plainOver K A_Joints = true) (P4_Joints : PySem.W.findIn K (.ref A_Joints) "__setattr__" = some (some (.builtin "object.__setattr__")))
    (M1_Joints : PySem.W.makesIn K A_Joints = true) (M2_Joints : PySem.W.findIn K (.ref A_Joints) "__init__" = some (some (.ref f2))) (M3_Joints : PySem.W.isFn K (.ref f2) = true) (M4_Joints : PySem.W.keepIn K (.ref A_Joints) = true)
    (N_Joints_lines : PySem.W.findIn K (.ref A_Joints) "lines" = some none)
    (N_Joints_readings : PySem.W.findIn K (.ref A_Joints) "readings" = some none)
    (m1_Joints___iter__ : PySem.W.findIn K (.ref A_Joints) "__iter__" = some (some (.ref f17))) (m2_Joints___iter__ : PySem.W.isFn K (.ref f17) = true)
    (m1_Joints___len__ : PySem.W.findIn K (.ref A_Joints) "__len__" = some (some (.ref f3))) (m2_Joints___len__ : PySem.W.isFn K (.ref f3) = true)
    (R1_Joints : PySem.W.readsIn K A_Joints (.type "type") = true) (R2_Joints : PySem.W.specialIn K (.ref A_Joints) "__getattribute__" = some (some (.builtin "type.__getattribute__")))
    (V_Joints_MOST : PySem.W.findCls K (.ref A_Joints) (.type "type") "MOST" = some (.val (.int 8 tv_Joints_MOST))) : ∃ T : Txt K mg, T.f_law = f16 ∧ T.fd_law = PySem.W.fnOf "law" "law" (defArgs s_law) (defBody s_law) (defScope s_law) .none kV16 dc16 pm16 an16 cd16 ct16 := by
  have F0 := fun_mk (st := s_is_part) l0 c0 k0
  have b0 := F0.binds (ps := ["text", "dot"]) fun _ _ _ _ _ _ us hl => match us, hl with | [_, _], _ => rfl
  have F1 := fun_mk (st := s_read_joint) l1 c1 k1
  have b1 := F1.binds (ps := ["line"]) fun _ _ _ _ _ _ us hl => match us, hl with | [_], _ => rfl
  have F2 := fun_mk (st := s_Joints_init) l2 c2 k2
  have b2 := F2.binds (ps := ["self", "lines"]) fun _ _ _ _ _ _ us hl => match us, hl with | [_, _], _ => rfl
  have F3 := fun_mk (st := s_Joints_len) l3 c3 k3
  have b3 := F3.binds (ps := ["self"]) fun _ _ _ _ _ _ us hl => match us, hl with | [_], _ => rfl
  have F4 := fun_mk (st := s_l_cell) l4 c4 k4
  have b4 := F4.binds (ps := ["_law_script", "_law_k"]) fun _ _ _ _ _ _ us hl => match us, hl with | [_, _], _ => rfl
  have F5 := fun_mk (st := s_l_row) l5 c5 k5
  have b5 := F5.binds (ps := ["_law_cell_here", "_law_limits"]) fun _ _ _ _ _ _ us hl => match us, hl with | [_, _], _ => rfl
  have F6 := fun_mk (st := s_l_same) l6 c6 k6
  have b6 := F6.binds (ps := ["_law_one", "_law_two"]) fun _ _ _ _ _ _ us hl => match us, hl with | [_, _], _ => rfl
  have F7 := fun_mk (st := s_l_letters) l7 c7 k7
  have b7 := F7.binds (ps := ["_law_cell_here"]) fun _ _ _ _ _ _ us hl => match us, hl with | [_], _ => rfl
  have F8 := fun_mk (st := s_l_joint) l8 c8 k8
  have b8 := F8.binds (ps := ["_law_cell_here", "_law_letters_here", "_law_share"]) fun _ _ _ _ _ _ us hl => match us, hl with | [_, _, _], _ => rfl
  have F9 := fun_mk (st := s_l_written) l9 c9 k9
  have b9 := F9.binds (ps := ["_law_row_here"]) fun _ _ _ _ _ _ us hl => match us, hl with | [_], _ => rfl
  have F10 := fun_mk (st := s_l_odd) l10 c10 k10
  have b10 := F10.binds (ps := ["_law_pick"]) fun _ _ _ _ _ _ us hl => match us, hl with | [_], _ => rfl
  have F11 := fun_mk (st := s_l_line) l11 c11 k11
  have b11 := F11.binds (ps := ["_law_cell_here", "_law_more", "_law_letters_here"]) fun _ _ _ _ _ _ us hl => match us, hl with | [_, _, _], _ => rfl
  have F12 := fun_mk (st := s_l_is_part) l12 c12 k12
  have b12 := F12.binds (ps := ["_law_part", "_law_dot"]) fun _ _ _ _ _ _ us hl => match us, hl with | [_, _], _ => rfl
  have F13 := fun_mk (st := s_l_is_written) l13 c13 k13
  have b13 := F13.binds (ps := ["_law_text"]) fun _ _ _ _ _ _ us hl => match us, hl with | [_], _ => rfl
  have F14 := fun_mk (st := s_l_made) l14 c14 k14
  have b14 := F14.binds (ps := ["_law_lines"]) fun _ _ _ _ _ _ us hl => match us, hl with | [_], _ => rfl
  have F15 := fun_mk (st := s_l_refused) l15 c15 k15
  have b15 := F15.binds (ps := ["_law_lines"]) fun _ _ _ _ _ _ us hl => match us, hl with | [_], _ => rfl
  have F16 := fun_mk (st := s_law) l16 c16 k16
  have b16 := F16.binds (ps := ["_law_script"]) fun _ _ _ _ _ _ us hl => match us, hl with | [_], _ => rfl
  have F17 := fun_mk (st := s_Joints_iter) l17 c17 k17
  have b17 := F17.binds (ps := ["self"]) fun _ _ _ _ _ _ us hl => match us, hl with | [_], _ => rfl
  have FI_BadJoint := fun_mk (st := s_BadJoint) X9_BadJoint Xa_BadJoint Xb_BadJoint
  have bI_BadJoint := FI_BadJoint.binds (ps := ["self", "text"]) fun _ _ _ _ _ _ us hl => match us, hl with | [_, _], _ => rfl
  have FI_TooLarge := fun_mk (st := s_TooLarge) X9_TooLarge Xa_TooLarge Xb_TooLarge
  have bI_TooLarge := FI_TooLarge.binds (ps := ["self", "many"]) fun _ _ _ _ _ _ us hl => match us, hl with | [_, _], _ => rfl
  exact ⟨⟨f0, _, F0, PySem.W.mg_of X G a0, b0, f1, _, F1, PySem.W.mg_of X G a1, b1, f2, _, F2, b2, f3, _, F3, b3, f4, _, F4, PySem.W.mg_of X G a4, b4, f5, _, F5, PySem.W.mg_of X G a5, b5, f6, _, F6, PySem.W.mg_of X G a6, b6, f7, _, F7, PySem.W.mg_of X G a7, b7, f8, _, F8, PySem.W.mg_of X G a8, b8, f9, _, F9, PySem.W.mg_of X G a9, b9, f10, _, F10, PySem.W.mg_of X G a10, b10, f11, _, F11, PySem.W.mg_of X G a11, b11, f12, _, F12, PySem.W.mg_of X G a12, b12, f13, _, F13, PySem.W.mg_of X G a13, b13, f14, _, F14, PySem.W.mg_of X G a14, b14, f15, _, F15, PySem.W.mg_of X G a15, b15, f16, _, F16, PySem.W.mg_of X G a16, b16, f17, _, F17, b17, PySem.W.mg_none_of X G z_ValueError, PySem.W.mg_none_of X G z_bool, PySem.W.mg_none_of X G z_enumerate, PySem.W.mg_none_of X G z_int, PySem.W.mg_none_of X G z_isinstance, PySem.W.mg_none_of X G z_iter, PySem.W.mg_none_of X G z_len, PySem.W.mg_none_of X G z_list, PySem.W.mg_none_of X G z_range, PySem.W.mg_none_of X G z_sorted, PySem.W.mg_none_of X G z_str, PySem.W.mg_none_of X G z_tuple, _, PySem.W.mg_of X G y_LETTERS, A_BadJoint, PySem.W.mg_of X G x_BadJoint, A_LaidError, PySem.W.mg_of X G x_LaidError, A_TooLarge, PySem.W.mg_of X G x_TooLarge, ⟨⟨_, _, _, _, _, _, _, _, _, _, _, _, _, _, _, X1_BadJoint, X2_BadJoint⟩, X3_BadJoint, X4_BadJoint, X5_BadJoint, X6_BadJoint⟩, fI_BadJoint, _, X7_BadJoint, X8_BadJoint, FI_BadJoint, bI_BadJoint, Y0_BadJoint, ⟨Xc_BadJoint, Xd_BadJoint, X4_BadJoint, Xe_BadJoint⟩, ⟨Xc_BadJoint, Xd_BadJoint, X4_BadJoint, Xe_BadJoint, Xf_BadJoint, Xg_BadJoint, Xh_BadJoint, Xi_BadJoint⟩, E_BadJoint_BadJoint, E_BadJoint_LaidError, E_BadJoint_TooLarge, Q_BadJoint_BadJoint, Q_BadJoint_ValueError, ⟨⟨_, _, _, _, _, _, _, _, _, _, _, _, _, _, _, X1_TooLarge, X2_TooLarge⟩, X3_TooLarge, X4_TooLarge, X5_TooLarge, X6_TooLarge⟩, fI_TooLarge, _, X7_TooLarge, X8_TooLarge, FI_TooLarge, bI_TooLarge, Y0_TooLarge, ⟨Xc_TooLarge, Xd_TooLarge, X4_TooLarge, Xe_TooLarge⟩, ⟨Xc_TooLarge, Xd_TooLarge, X4_TooLarge, Xe_TooLarge, Xf_TooLarge, Xg_TooLarge, Xh_TooLarge, Xi_TooLarge⟩, E_TooLarge_BadJoint, E_TooLarge_LaidError, E_TooLarge_TooLarge, Q_TooLarge_BadJoint, Q_TooLarge_ValueError, A_Joints, PySem.W.mg_of X G x_Joints, ⟨P1_Joints, P2_Joints, P3_Joints, P4_Joints⟩, ⟨M1_Joints, M2_Joints, M3_Joints, M4_Joints⟩, N_Joints_lines, N_Joints_readings, ⟨m1_Joints___iter__, m2_Joints___iter__, k17⟩, ⟨m1_Joints___len__, m2_Joints___len__, k3⟩, ⟨R1_Joints, R2_Joints⟩, _, ⟨V_Joints_MOST, ⟨_, rfl⟩⟩⟩, rfl, rfl⟩
def spLaw (K : PySem.W.Frag) : Sp := fun vs H Q _ => ∃ (a : Addr) (ns : List Int), vs = [.ref a] ∧ SqL K H a (ns.map V.int) ∧ ns.length ≤ 63 ∧ ∀ H', Q (.bl true) H'
theorem ok_end {P : Program} {w : World} {K : PySem.W.Frag} {mg : Str → Option Value} {base : Heap} (T : Txt K mg) : FnOk P w K mg base (L2.CX P w) 10 T.f_law T.fd_law ["_law_script"] (spLaw K) := FnOk.imp (ok_law T) fun vs H Q E ⟨a, ns, e, hS, hl, k⟩ => by
  subst e
  exact law_sp (law_true ns hl) hS k
theorem all_mk {l : PySem.W.OpenLaw} {w : World} {K : PySem.W.Frag} {h : Heap} {mg : Str → Option Value} {fa : Addr} (X : K.In h) (G : h.Ns mainGlobals mg) (hfa : mg "law" = some (.ref fa))
    {f0 : Addr} {oc0 kV0 dc0 pm0 cd0 ct0 : Value} {od0 an0 : Option Addr} {sl0 : Array (Option Value)}
    {f1 : Addr} {oc1 kV1 dc1 pm1 cd1 ct1 : Value} {od1 an1 : Option Addr} {sl1 : Array (Option Value)}
    {f2 : Addr} {oc2 kV2 dc2 pm2 cd2 ct2 : Value} {od2 an2 : Option Addr} {sl2 : Array (Option Value)}
    {f3 : Addr} {oc3 kV3 dc3 pm3 cd3 ct3 : Value} {od3 an3 : Option Addr} {sl3 : Array (Option Value)}
    {f4 : Addr} {oc4 kV4 dc4 pm4 cd4 ct4 : Value} {od4 an4 : Option Addr} {sl4 : Array (Option Value)}
    {f5 : Addr} {oc5 kV5 dc5 pm5 cd5 ct5 : Value} {od5 an5 : Option Addr} {sl5 : Array (Option Value)}
    {f6 : Addr} {oc6 kV6 dc6 pm6 cd6 ct6 : Value} {od6 an6 : Option Addr} {sl6 : Array (Option Value)}
    {f7 : Addr} {oc7 kV7 dc7 pm7 cd7 ct7 : Value} {od7 an7 : Option Addr} {sl7 : Array (Option Value)}
    {f8 : Addr} {oc8 kV8 dc8 pm8 cd8 ct8 : Value} {od8 an8 : Option Addr} {sl8 : Array (Option Value)}
    {f9 : Addr} {oc9 kV9 dc9 pm9 cd9 ct9 : Value} {od9 an9 : Option Addr} {sl9 : Array (Option Value)}
    {f10 : Addr} {oc10 kV10 dc10 pm10 cd10 ct10 : Value} {od10 an10 : Option Addr} {sl10 : Array (Option Value)}
    {f11 : Addr} {oc11 kV11 dc11 pm11 cd11 ct11 : Value} {od11 an11 : Option Addr} {sl11 : Array (Option Value)}
    {f12 : Addr} {oc12 kV12 dc12 pm12 cd12 ct12 : Value} {od12 an12 : Option Addr} {sl12 : Array (Option Value)}
    {f13 : Addr} {oc13 kV13 dc13 pm13 cd13 ct13 : Value} {od13 an13 : Option Addr} {sl13 : Array (Option Value)}
    {f14 : Addr} {oc14 kV14 dc14 pm14 cd14 ct14 : Value} {od14 an14 : Option Addr} {sl14 : Array (Option Value)}
    {f15 : Addr} {oc15 kV15 dc15 pm15 cd15 ct15 : Value} {od15 an15 : Option Addr} {sl15 : Array (Option Value)}
    {f16 : Addr} {oc16 kV16 dc16 pm16 cd16 ct16 : Value} {od16 an16 : Option Addr} {sl16 : Array (Option Value)}
    {f17 : Addr} {oc17 kV17 dc17 pm17 cd17 ct17 : Value} {od17 an17 : Option Addr} {sl17 : Array (Option Value)}
    {t_LETTERS : Tok}
    {A_BadJoint : Addr}
    {A_LaidError : Addr}
    {A_TooLarge : Addr}
    {nm_BadJoint qq_BadJoint : Str} {N_BadJoint fI_BadJoint : Addr} {bs_BadJoint bm_BadJoint : List Value} {sn_BadJoint : List Str} {sb_BadJoint : List Value} {ab_BadJoint : Bool} {co_BadJoint : Option Bool} {dd_BadJoint od_BadJoint an_BadJoint : Option Addr} {m0_BadJoint m1_BadJoint m2_BadJoint m3_BadJoint m5_BadJoint : Option Value} {oc_BadJoint kV_BadJoint dc_BadJoint pm_BadJoint cd_BadJoint ct_BadJoint : Value} {sl_BadJoint : Array (Option Value)}
    {nm_TooLarge qq_TooLarge : Str} {N_TooLarge fI_TooLarge : Addr} {bs_TooLarge bm_TooLarge : List Value} {sn_TooLarge : List Str} {sb_TooLarge : List Value} {ab_TooLarge : Bool} {co_TooLarge : Option Bool} {dd_TooLarge od_TooLarge an_TooLarge : Option Addr} {m0_TooLarge m1_TooLarge m2_TooLarge m3_TooLarge m5_TooLarge : Option Value} {oc_TooLarge kV_TooLarge dc_TooLarge pm_TooLarge cd_TooLarge ct_TooLarge : Value} {sl_TooLarge : Array (Option Value)}
    {A_Joints : Addr}
    {tv_Joints_MOST : Tok}
    (a0 : PySem.W.nsIn K mainGlobals "is_part" = some (some (.ref f0)))
    (l0 : K.lookup f0 = some ⟨oc0, od0, .func (PySem.W.fnOf "is_part" "is_part" (defArgs s_is_part) (defBody s_is_part) (defScope s_is_part) .none kV0 dc0 pm0 an0 cd0 ct0), sl0⟩) (c0 : PySem.W.codeIn K cd0 "is_part" = true) (k0 : PySem.W.keepIn K (.ref f0) = true)
    (a1 : PySem.W.nsIn K mainGlobals "read_joint" = some (some (.ref f1)))
    (l1 : K.lookup f1 = some ⟨oc1, od1, .func (PySem.W.fnOf "read_joint" "read_joint" (defArgs s_read_joint) (defBody s_read_joint) (defScope s_read_joint) .none kV1 dc1 pm1 an1 cd1 ct1), sl1⟩) (c1 : PySem.W.codeIn K cd1 "read_joint" = true) (k1 : PySem.W.keepIn K (.ref f1) = true)
    (l2 : K.lookup f2 = some ⟨oc2, od2, .func (PySem.W.fnOf "__init__" "Joints.__init__" (defArgs s_Joints_init) (defBody s_Joints_init) (defScope s_Joints_init) .none kV2 dc2 pm2 an2 cd2 ct2), sl2⟩) (c2 : PySem.W.codeIn K cd2 "Joints.__init__" = true) (k2 : PySem.W.keepIn K (.ref f2) = true)
    (l3 : K.lookup f3 = some ⟨oc3, od3, .func (PySem.W.fnOf "__len__" "Joints.__len__" (defArgs s_Joints_len) (defBody s_Joints_len) (defScope s_Joints_len) .none kV3 dc3 pm3 an3 cd3 ct3), sl3⟩) (c3 : PySem.W.codeIn K cd3 "Joints.__len__" = true) (k3 : PySem.W.keepIn K (.ref f3) = true)
    (a4 : PySem.W.nsIn K mainGlobals "_law_cell" = some (some (.ref f4)))
    (l4 : K.lookup f4 = some ⟨oc4, od4, .func (PySem.W.fnOf "_law_cell" "_law_cell" (defArgs s_l_cell) (defBody s_l_cell) (defScope s_l_cell) .none kV4 dc4 pm4 an4 cd4 ct4), sl4⟩) (c4 : PySem.W.codeIn K cd4 "_law_cell" = true) (k4 : PySem.W.keepIn K (.ref f4) = true)
    (a5 : PySem.W.nsIn K mainGlobals "_law_row" = some (some (.ref f5)))
    (l5 : K.lookup f5 = some ⟨oc5, od5, .func (PySem.W.fnOf "_law_row" "_law_row" (defArgs s_l_row) (defBody s_l_row) (defScope s_l_row) .none kV5 dc5 pm5 an5 cd5 ct5), sl5⟩) (c5 : PySem.W.codeIn K cd5 "_law_row" = true) (k5 : PySem.W.keepIn K (.ref f5) = true)
    (a6 : PySem.W.nsIn K mainGlobals "_law_same" = some (some (.ref f6)))
    (l6 : K.lookup f6 = some ⟨oc6, od6, .func (PySem.W.fnOf "_law_same" "_law_same" (defArgs s_l_same) (defBody s_l_same) (defScope s_l_same) .none kV6 dc6 pm6 an6 cd6 ct6), sl6⟩) (c6 : PySem.W.codeIn K cd6 "_law_same" = true) (k6 : PySem.W.keepIn K (.ref f6) = true)
    (a7 : PySem.W.nsIn K mainGlobals "_law_letters" = some (some (.ref f7)))
    (l7 : K.lookup f7 = some ⟨oc7, od7, .func (PySem.W.fnOf "_law_letters" "_law_letters" (defArgs s_l_letters) (defBody s_l_letters) (defScope s_l_letters) .none kV7 dc7 pm7 an7 cd7 ct7), sl7⟩) (c7 : PySem.W.codeIn K cd7 "_law_letters" = true) (k7 : PySem.W.keepIn K (.ref f7) = true)
    (a8 : PySem.W.nsIn K mainGlobals "_law_joint" = some (some (.ref f8)))
    (l8 : K.lookup f8 = some ⟨oc8, od8, .func (PySem.W.fnOf "_law_joint" "_law_joint" (defArgs s_l_joint) (defBody s_l_joint) (defScope s_l_joint) .none kV8 dc8 pm8 an8 cd8 ct8), sl8⟩) (c8 : PySem.W.codeIn K cd8 "_law_joint" = true) (k8 : PySem.W.keepIn K (.ref f8) = true)
    (a9 : PySem.W.nsIn K mainGlobals "_law_written" = some (some (.ref f9)))
    (l9 : K.lookup f9 = some ⟨oc9, od9, .func (PySem.W.fnOf "_law_written" "_law_written" (defArgs s_l_written) (defBody s_l_written) (defScope s_l_written) .none kV9 dc9 pm9 an9 cd9 ct9), sl9⟩) (c9 : PySem.W.codeIn K cd9 "_law_written" = true) (k9 : PySem.W.keepIn K (.ref f9) = true)
    (a10 : PySem.W.nsIn K mainGlobals "_law_odd" = some (some (.ref f10)))
    (l10 : K.lookup f10 = some ⟨oc10, od10, .func (PySem.W.fnOf "_law_odd" "_law_odd" (defArgs s_l_odd) (defBody s_l_odd) (defScope s_l_odd) .none kV10 dc10 pm10 an10 cd10 ct10), sl10⟩) (c10 : PySem.W.codeIn K cd10 "_law_odd" = true) (k10 : PySem.W.keepIn K (.ref f10) = true)
    (a11 : PySem.W.nsIn K mainGlobals "_law_line" = some (some (.ref f11)))
    (l11 : K.lookup f11 = some ⟨oc11, od11, .func (PySem.W.fnOf "_law_line" "_law_line" (defArgs s_l_line) (defBody s_l_line) (defScope s_l_line) .none kV11 dc11 pm11 an11 cd11 ct11), sl11⟩) (c11 : PySem.W.codeIn K cd11 "_law_line" = true) (k11 : PySem.W.keepIn K (.ref f11) = true)
    (a12 : PySem.W.nsIn K mainGlobals "_law_is_part" = some (some (.ref f12)))
    (l12 : K.lookup f12 = some ⟨oc12, od12, .func (PySem.W.fnOf "_law_is_part" "_law_is_part" (defArgs s_l_is_part) (defBody s_l_is_part) (defScope s_l_is_part) .none kV12 dc12 pm12 an12 cd12 ct12), sl12⟩) (c12 : PySem.W.codeIn K cd12 "_law_is_part" = true) (k12 : PySem.W.keepIn K (.ref f12) = true)
    (a13 : PySem.W.nsIn K mainGlobals "_law_is_written" = some (some (.ref f13)))
    (l13 : K.lookup f13 = some ⟨oc13, od13, .func (PySem.W.fnOf "_law_is_written" "_law_is_written" (defArgs s_l_is_written) (defBody s_l_is_written) (defScope s_l_is_written) .none kV13 dc13 pm13 an13 cd13 ct13), sl13⟩) (c13 : PySem.W.codeIn K cd13 "_law_is_written" = true) (k13 : PySem.W.keepIn K (.ref f13) = true)
    (a14 : PySem.W.nsIn K mainGlobals "_law_made" = some (some (.ref f14)))
    (l14 : K.lookup f14 = some ⟨oc14, od14, .func (PySem.W.fnOf "_law_made" "_law_made" (defArgs s_l_made) (defBody s_l_made) (defScope s_l_made) .none kV14 dc14 pm14 an14 cd14 ct14), sl14⟩) (c14 : PySem.W.codeIn K cd14 "_law_made" = true) (k14 : PySem.W.keepIn K (.ref f14) = true)
    (a15 : PySem.W.nsIn K mainGlobals "_law_refused" = some (some (.ref f15)))
    (l15 : K.lookup f15 = some ⟨oc15, od15, .func (PySem.W.fnOf "_law_refused" "_law_refused" (defArgs s_l_refused) (defBody s_l_refused) (defScope s_l_refused) .none kV15 dc15 pm15 an15 cd15 ct15), sl15⟩) (c15 : PySem.W.codeIn K cd15 "_law_refused" = true) (k15 : PySem.W.keepIn K (.ref f15) = true)
    (a16 : PySem.W.nsIn K mainGlobals "law" = some (some (.ref f16)))
    (l16 : K.lookup f16 = some ⟨oc16, od16, .func (PySem.W.fnOf "law" "law" (defArgs s_law) (defBody s_law) (defScope s_law) .none kV16 dc16 pm16 an16 cd16 ct16), sl16⟩) (c16 : PySem.W.codeIn K cd16 "law" = true) (k16 : PySem.W.keepIn K (.ref f16) = true)
    (l17 : K.lookup f17 = some ⟨oc17, od17, .func (PySem.W.fnOf "__iter__" "Joints.__iter__" (defArgs s_Joints_iter) (defBody s_Joints_iter) (defScope s_Joints_iter) .none kV17 dc17 pm17 an17 cd17 ct17), sl17⟩) (c17 : PySem.W.codeIn K cd17 "Joints.__iter__" = true) (k17 : PySem.W.keepIn K (.ref f17) = true)
    (z_ValueError : PySem.W.nsIn K mainGlobals "ValueError" = some none)
    (z_bool : PySem.W.nsIn K mainGlobals "bool" = some none)
    (z_enumerate : PySem.W.nsIn K mainGlobals "enumerate" = some none)
    (z_int : PySem.W.nsIn K mainGlobals "int" = some none)
    (z_isinstance : PySem.W.nsIn K mainGlobals "isinstance" = some none)
    (z_iter : PySem.W.nsIn K mainGlobals "iter" = some none)
    (z_len : PySem.W.nsIn K mainGlobals "len" = some none)
    (z_list : PySem.W.nsIn K mainGlobals "list" = some none)
    (z_range : PySem.W.nsIn K mainGlobals "range" = some none)
    (z_sorted : PySem.W.nsIn K mainGlobals "sorted" = some none)
    (z_str : PySem.W.nsIn K mainGlobals "str" = some none)
    (z_tuple : PySem.W.nsIn K mainGlobals "tuple" = some none)
    (y_LETTERS : PySem.W.nsIn K mainGlobals "LETTERS" = some (some (.str "abcdefghijklmnopqrstuvwxyz" t_LETTERS)))
    (x_BadJoint : PySem.W.nsIn K mainGlobals "BadJoint" = some (some (.ref A_BadJoint)))
    (x_LaidError : PySem.W.nsIn K mainGlobals "LaidError" = some (some (.ref A_LaidError)))
    (x_TooLarge : PySem.W.nsIn K mainGlobals "TooLarge" = some (some (.ref A_TooLarge)))
    (X1_BadJoint : K.lookup A_BadJoint = some (excClassObj nm_BadJoint qq_BadJoint A_BadJoint N_BadJoint bs_BadJoint bm_BadJoint true sn_BadJoint sb_BadJoint ab_BadJoint co_BadJoint dd_BadJoint m0_BadJoint m1_BadJoint m2_BadJoint m3_BadJoint m5_BadJoint "ValueError.__new__")) (X2_BadJoint : PySem.HandSPX.refsVE bm_BadJoint = true)
    (X3_BadJoint : PySem.W.findIn K (.ref A_BadJoint) "__setattr__" = some (some (.builtin "object.__setattr__"))) (X4_BadJoint : PySem.W.subIn K (.ref A_BadJoint) (.type "BaseException") = some true) (X5_BadJoint : PySem.W.typeIn K (.ref A_BadJoint) = some (.type "type")) (X6_BadJoint : PySem.W.keepIn K (.ref A_BadJoint) = true)
    (X7_BadJoint : PySem.W.findIn K (.ref A_BadJoint) "__init__" = some (some (.ref fI_BadJoint))) (X8_BadJoint : PySem.W.typeIn K (.ref fI_BadJoint) = some (.type "function")) (X9_BadJoint : K.lookup fI_BadJoint = some ⟨oc_BadJoint, od_BadJoint, .func (PySem.W.fnOf "__init__" "BadJoint.__init__" (defArgs s_BadJoint) (defBody s_BadJoint) (defScope s_BadJoint) .none kV_BadJoint dc_BadJoint pm_BadJoint an_BadJoint cd_BadJoint ct_BadJoint), sl_BadJoint⟩) (Xa_BadJoint : PySem.W.codeIn K cd_BadJoint "BadJoint.__init__" = true) (Xb_BadJoint : PySem.W.keepIn K (.ref fI_BadJoint) = true)
    (Y0_BadJoint : PySem.W.findIn K (.ref A_BadJoint) "text" = some none)
    (Xc_BadJoint : PySem.W.findIn K (.ref A_BadJoint) "__getattribute__" = some (some (.builtin "BaseException.__getattribute__"))) (Xd_BadJoint : PySem.W.findIn K (.ref A_BadJoint) "__getattr__" = some none) (Xe_BadJoint : PySem.W.hasDictIn K A_BadJoint = true)
    (Xf_BadJoint : PySem.W.findIn K (.ref A_BadJoint) "__class__" = some (some (.builtin "object.__class__"))) (Xg_BadJoint : PySem.W.specialIn K (.builtin "object.__class__") "__get__" = some (some (.builtin "getset_descriptor.__get__"))) (Xh_BadJoint : PySem.W.takesIn K (.builtin "object.__class__") = some true) (Xi_BadJoint : PySem.W.mroIn K A_BadJoint (.type "object") = some true)
    (E_BadJoint_BadJoint : PySem.W.exmOne K (.ref A_BadJoint) (.ref A_BadJoint) = some true)
    (E_BadJoint_LaidError : PySem.W.exmOne K (.ref A_BadJoint) (.ref A_LaidError) = some true)
    (E_BadJoint_TooLarge : PySem.W.exmOne K (.ref A_BadJoint) (.ref A_TooLarge) = some false)
    (Q_BadJoint_BadJoint : PySem.W.kitOne K (.ref A_BadJoint) (.ref A_BadJoint) = some true)
    (Q_BadJoint_ValueError : PySem.W.kitOne K (.ref A_BadJoint) (.type "ValueError") = some true)
    (X1_TooLarge : K.lookup A_TooLarge = some (excClassObj nm_TooLarge qq_TooLarge A_TooLarge N_TooLarge bs_TooLarge bm_TooLarge true sn_TooLarge sb_TooLarge ab_TooLarge co_TooLarge dd_TooLarge m0_TooLarge m1_TooLarge m2_TooLarge m3_TooLarge m5_TooLarge "ValueError.__new__")) (X2_TooLarge : PySem.HandSPX.refsVE bm_TooLarge = true)
    (X3_TooLarge : PySem.W.findIn K (.ref A_TooLarge) "__setattr__" = some (some (.builtin "object.__setattr__"))) (X4_TooLarge : PySem.W.subIn K (.ref A_TooLarge) (.type "BaseException") = some true) (X5_TooLarge : PySem.W.typeIn K (.ref A_TooLarge) = some (.type "type")) (X6_TooLarge : PySem.W.keepIn K (.ref A_TooLarge) = true)
    (X7_TooLarge : PySem.W.findIn K (.ref A_TooLarge) "__init__" = some (some (.ref fI_TooLarge))) (X8_TooLarge : PySem.W.typeIn K (.ref fI_TooLarge) = some (.type "function")) (X9_TooLarge : K.lookup fI_TooLarge = some ⟨oc_TooLarge, od_TooLarge, .func (PySem.W.fnOf "__init__" "TooLarge.__init__" (defArgs s_TooLarge) (defBody s_TooLarge) (defScope s_TooLarge) .none kV_TooLarge dc_TooLarge pm_TooLarge an_TooLarge cd_TooLarge ct_TooLarge), sl_TooLarge⟩) (Xa_TooLarge : PySem.W.codeIn K cd_TooLarge "TooLarge.__init__" = true) (Xb_TooLarge : PySem.W.keepIn K (.ref fI_TooLarge) = true)
    (Y0_TooLarge : PySem.W.findIn K (.ref A_TooLarge) "many" = some none)
    (Xc_TooLarge : PySem.W.findIn K (.ref A_TooLarge) "__getattribute__" = some (some (.builtin "BaseException.__getattribute__"))) (Xd_TooLarge : PySem.W.findIn K (.ref A_TooLarge) "__getattr__" = some none) (Xe_TooLarge : PySem.W.hasDictIn K A_TooLarge = true)
    (Xf_TooLarge : PySem.W.findIn K (.ref A_TooLarge) "__class__" = some (some (.builtin "object.__class__"))) (Xg_TooLarge : PySem.W.specialIn K (.builtin "object.__class__") "__get__" = some (some (.builtin "getset_descriptor.__get__"))) (Xh_TooLarge : PySem.W.takesIn K (.builtin "object.__class__") = some true) (Xi_TooLarge : PySem.W.mroIn K A_TooLarge (.type "object") = some true)
    (E_TooLarge_BadJoint : PySem.W.exmOne K (.ref A_TooLarge) (.ref A_BadJoint) = some false)
    (E_TooLarge_LaidError : PySem.W.exmOne K (.ref A_TooLarge) (.ref A_LaidError) = some true)
    (E_TooLarge_TooLarge : PySem.W.exmOne K (.ref A_TooLarge) (.ref A_TooLarge) = some true)
    (Q_TooLarge_BadJoint : PySem.W.kitOne K (.ref A_TooLarge) (.ref A_BadJoint) = some false)
    (Q_TooLarge_ValueError : PySem.W.kitOne K (.ref A_TooLarge) (.type "ValueError") = some true)
    (x_Joints : PySem.W.nsIn K mainGlobals "Joints" = some (some (.ref A_Joints))) (P1_Joints : PySem.W.plainGet K A_Joints Str.empty = true) (P2_Joints : PySem.W.hasDictIn K A_Joints = true) (P3_Joints : PySem.W.plainOver K A_Joints = true) (P4_Joints : PySem.W.findIn K (.ref A_Joints) "__setattr__" = some (some (.builtin "object.__setattr__")))
    (M1_Joints : PySem.W.makesIn K A_Joints = true) (M2_Joints : PySem.W.findIn K (.ref A_Joints) "__init__" = some (some (.ref f2))) (M3_Joints : PySem.W.isFn K (.ref f2) = true) (M4_Joints : PySem.W.keepIn K (.ref A_Joints) = true)
    (N_Joints_lines : PySem.W.findIn K (.ref A_Joints) "lines" = some none)
    (N_Joints_readings : PySem.W.findIn K (.ref A_Joints) "readings" = some none)
    (m1_Joints___iter__ : PySem.W.findIn K (.ref A_Joints) "__iter__" = some (some (.ref f17))) (m2_Joints___iter__ : PySem.W.isFn K (.ref f17) = true)
    (m1_Joints___len__ : PySem.W.findIn K (.ref A_Joints) "__len__" = some (some (.ref f3))) (m2_Joints___len__ : PySem.W.isFn K (.ref f3) = true)
    (R1_Joints : PySem.W.readsIn K A_Joints (.type "type") = true) (R2_Joints : PySem.W.specialIn K (.ref A_Joints) "__getattribute__" = some (some (.builtin "type.__getattribute__")))
    (V_Joints_MOST : PySem.W.findCls K (.ref A_Joints) (.type "type") "MOST" = some (.val (.int 8 tv_Joints_MOST))) :
    ∃ fd : FuncData, (∀ (s : Shared) (v : Value), BindsTo s fd ⟨[v], []⟩ [("_law_script", v)]) ∧ ∀ base : Heap, K.In base → base.Ns mainGlobals mg → FnOk l.prog w K mg base (L2.CX l.prog w) 10 fa fd ["_law_script"] (spLaw K) := by
  have e := hfa.symm.trans (PySem.W.mg_of X G a16)
  cases e
  obtain ⟨T, e1, e2⟩ := txt_mk X G a0 l0 c0 k0 a1 l1 c1 k1 l2 c2 k2 l3 c3 k3 a4 l4 c4 k4 a5 l5 c5 k5 a6 l6 c6 k6 a7 l7 c7 k7 a8 l8 c8 k8 a9 l9 c9 k9 a10 l10 c10 k10 a11 l11 c11 k11 a12 l12 c12 k12 a13 l13 c13 k13 a14 l14 c14 k14 a15 l15 c15 k15 a16 l16 c16 k16 l17 c17 k17 z_ValueError z_bool z_enumerate z_int z_isinstance z_iter z_len z_list z_range z_sorted z_str z_tuple y_LETTERS x_BadJoint x_LaidError x_TooLarge X1_BadJoint X2_BadJoint X3_BadJoint X4_BadJoint X5_BadJoint X6_BadJoint X7_BadJoint X8_BadJoint X9_BadJoint Xa_BadJoint Xb_BadJoint Y0_BadJoint Xc_BadJoint Xd_BadJoint Xe_BadJoint Xf_BadJoint Xg_BadJoint Xh_BadJoint Xi_BadJoint E_BadJoint_BadJoint E_BadJoint_LaidError E_BadJoint_TooLarge Q_BadJoint_BadJoint Q_BadJoint_ValueError X1_TooLarge X2_TooLarge X3_TooLarge X4_TooLarge X5_TooLarge X6_TooLarge X7_TooLarge X8_TooLarge X9_TooLarge Xa_TooLarge Xb_TooLarge Y0_TooLarge Xc_TooLarge Xd_TooLarge Xe_TooLarge Xf_TooLarge Xg_TooLarge Xh_TooLarge Xi_TooLarge E_TooLarge_BadJoint E_TooLarge_LaidError E_TooLarge_TooLarge Q_TooLarge_BadJoint Q_TooLarge_ValueError x_Joints P1_Joints P2_Joints P3_Joints P4_Joints M1_Joints M2_Joints M3_Joints M4_Joints N_Joints_lines N_Joints_readings m1_Joints___iter__ m2_Joints___iter__ m1_Joints___len__ m2_Joints___len__ R1_Joints R2_Joints V_Joints_MOST
  refine ⟨PySem.W.fnOf "law" "law" (defArgs s_law) (defBody s_law) (defScope s_law) .none kV16 dc16 pm16 an16 cd16 ct16, fun s v => .of_eq rfl, fun base _ _ => ?_⟩
  have z := ok_end (P := l.prog) (w := w) (base := base) T
  rw [e1, e2] at z
  exact z
end Lk
end S_P_end
section S_P_top
set_option Elab.async false
set_option linter.all false
open PySem PySem.W PyProof.Rows
set_option maxRecDepth 100000 in
set_option maxHeartbeats 0 in
theorem PySem.Challenge.cw_laidforall_k28_joint_rows_are_read_holds : PySem.Challenge.rw_laidforall_k28_joint_rows_are_read.Holds := by
  w_on; o_law; k_head; (case hw => w_witness2)
  k_fill
  refine L2.walk_of (l := PySem.Challenge.rw_laidforall_k28_joint_rows_are_read) (n := 63) (k := 10) (x := "_law_script") (CX := fun w => L2.CX PySem.Challenge.rw_laidforall_k28_joint_rows_are_read.prog w) (sp := fun w => Lk.spLaw _) rfl (by decide) rfl ⟨rfl, by decide, by decide⟩ (fun w h Y => PySem.W.kIn_of Y) ?F (fun _ _ a ns hl _ hS => ⟨a, ns, rfl, hS, hl, fun _ => rfl⟩) (fun _ _ _ _ _ h => Dx.cx_never h)
  case F =>
    intro w mg fa h KX G hmg
    refine' Lk.all_mk KX G hmg ?a0 ?l0 ?c0 ?k0 ?a1 ?l1 ?c1 ?k1 ?l2 ?c2 ?k2 ?l3 ?c3 ?k3 ?a4 ?l4 ?c4 ?k4 ?a5 ?l5 ?c5 ?k5 ?a6 ?l6 ?c6 ?k6 ?a7 ?l7 ?c7 ?k7 ?a8 ?l8 ?c8 ?k8 ?a9 ?l9 ?c9 ?k9 ?a10 ?l10 ?c10 ?k10 ?a11 ?l11 ?c11 ?k11 ?a12 ?l12 ?c12 ?k12 ?a13 ?l13 ?c13 ?k13 ?a14 ?l14 ?c14 ?k14 ?a15 ?l15 ?c15 ?k15 ?a16 ?l16 ?c16 ?k16 ?l17 ?c17 ?k17 ?z_ValueError ?z_bool ?z_enumerate ?z_int ?z_isinstance ?z_iter ?z_len ?z_list ?z_range ?z_sorted ?z_str ?z_tuple ?y_LETTERS ?x_BadJoint ?x_LaidError ?x_TooLarge ?X1_BadJoint ?X2_BadJoint ?X3_BadJoint ?X4_BadJoint ?X5_BadJoint ?X6_BadJoint ?X7_BadJoint ?X8_BadJoint ?X9_BadJoint ?Xa_BadJoint ?Xb_BadJoint ?Y0_BadJoint ?Xc_BadJoint ?Xd_BadJoint ?Xe_BadJoint ?Xf_BadJoint ?Xg_BadJoint ?Xh_BadJoint ?Xi_BadJoint ?E_BadJoint_BadJoint ?E_BadJoint_LaidError ?E_BadJoint_TooLarge ?Q_BadJoint_BadJoint ?Q_BadJoint_ValueError ?X1_TooLarge ?X2_TooLarge ?X3_TooLarge ?X4_TooLarge ?X5_TooLarge ?X6_TooLarge ?X7_TooLarge ?X8_TooLarge ?X9_TooLarge ?Xa_TooLarge ?Xb_TooLarge ?Y0_TooLarge ?Xc_TooLarge ?Xd_TooLarge ?Xe_TooLarge ?Xf_TooLarge ?Xg_TooLarge ?Xh_TooLarge ?Xi_TooLarge ?E_TooLarge_BadJoint ?E_TooLarge_LaidError ?E_TooLarge_TooLarge ?Q_TooLarge_BadJoint ?Q_TooLarge_ValueError ?x_Joints ?P1_Joints ?P2_Joints ?P3_Joints ?P4_Joints ?M1_Joints ?M2_Joints ?M3_Joints ?M4_Joints ?N_Joints_lines ?N_Joints_readings ?m1_Joints___iter__ ?m2_Joints___iter__ ?m1_Joints___len__ ?m2_Joints___len__ ?R1_Joints ?R2_Joints ?V_Joints_MOST
    (case y_LETTERS => k_is)
    (case x_BadJoint => k_is)
    (case x_LaidError => k_is)
    (case x_TooLarge => k_is)
    (case x_Joints => k_is)
    (case V_Joints_MOST => k_is)
    (case M2_Joints => k_is)
    (case m1_Joints___iter__ => k_is)
    (case m1_Joints___len__ => k_is)
    (case a0 => k_is)
    (case l0 => k_is)
    (case c0 => k_is)
    (case k0 => k_is)
    (case a1 => k_is)
    (case l1 => k_is)
    (case c1 => k_is)
    (case k1 => k_is)
    (case l2 => k_is)
    (case c2 => k_is)
    (case k2 => k_is)
    (case l3 => k_is)
    (case c3 => k_is)
    (case k3 => k_is)
    (case a4 => k_is)
    (case l4 => k_is)
    (case c4 => k_is)
    (case k4 => k_is)
    (case a5 => k_is)
    (case l5 => k_is)
    (case c5 => k_is)
    (case k5 => k_is)
    (case a6 => k_is)
    (case l6 => k_is)
    (case c6 => k_is)
    (case k6 => k_is)
    (case a7 => k_is)
    (case l7 => k_is)
    (case c7 => k_is)
    (case k7 => k_is)
    (case a8 => k_is)
    (case l8 => k_is)
    (case c8 => k_is)
    (case k8 => k_is)
    (case a9 => k_is)
    (case l9 => k_is)
    (case c9 => k_is)
    (case k9 => k_is)
    (case a10 => k_is)
    (case l10 => k_is)
    (case c10 => k_is)
    (case k10 => k_is)
    (case a11 => k_is)
    (case l11 => k_is)
    (case c11 => k_is)
    (case k11 => k_is)
    (case a12 => k_is)
    (case l12 => k_is)
    (case c12 => k_is)
    (case k12 => k_is)
    (case a13 => k_is)
    (case l13 => k_is)
    (case c13 => k_is)
    (case k13 => k_is)
    (case a14 => k_is)
    (case l14 => k_is)
    (case c14 => k_is)
    (case k14 => k_is)
    (case a15 => k_is)
    (case l15 => k_is)
    (case c15 => k_is)
    (case k15 => k_is)
    (case a16 => k_is)
    (case l16 => k_is)
    (case c16 => k_is)
    (case k16 => k_is)
    (case l17 => k_is)
    (case c17 => k_is)
    (case k17 => k_is)
    (case z_ValueError => k_is)
    (case z_bool => k_is)
    (case z_enumerate => k_is)
    (case z_int => k_is)
    (case z_isinstance => k_is)
    (case z_iter => k_is)
    (case z_len => k_is)
    (case z_list => k_is)
    (case z_range => k_is)
    (case z_sorted => k_is)
    (case z_str => k_is)
    (case z_tuple => k_is)
    (case X1_BadJoint => k_is)
    (case X2_BadJoint => decide +kernel)
    (case X3_BadJoint => k_is)
    (case X4_BadJoint => k_is)
    (case X5_BadJoint => k_is)
    (case X6_BadJoint => k_is)
    (case X7_BadJoint => k_is)
    (case X8_BadJoint => k_is)
    (case X9_BadJoint => k_is)
    (case Xa_BadJoint => k_is)
    (case Xb_BadJoint => k_is)
    (case Y0_BadJoint => k_is)
    (case Xc_BadJoint => k_is)
    (case Xd_BadJoint => k_is)
    (case Xe_BadJoint => k_is)
    (case Xf_BadJoint => k_is)
    (case Xg_BadJoint => k_is)
    (case Xh_BadJoint => k_is)
    (case Xi_BadJoint => k_is)
    (case E_BadJoint_BadJoint => first | k_is | rfl | decide +kernel)
    (case E_BadJoint_LaidError => first | k_is | rfl | decide +kernel)
    (case E_BadJoint_TooLarge => first | k_is | rfl | decide +kernel)
    (case Q_BadJoint_BadJoint => first | k_is | rfl | decide +kernel)
    (case Q_BadJoint_ValueError => first | k_is | rfl | decide +kernel)
    (case X1_TooLarge => k_is)
    (case X2_TooLarge => decide +kernel)
    (case X3_TooLarge => k_is)
    (case X4_TooLarge => k_is)
    (case X5_TooLarge => k_is)
    (case X6_TooLarge => k_is)
    (case X7_TooLarge => k_is)
    (case X8_TooLarge => k_is)
    (case X9_TooLarge => k_is)
    (case Xa_TooLarge => k_is)
    (case Xb_TooLarge => k_is)
    (case Y0_TooLarge => k_is)
    (case Xc_TooLarge => k_is)
    (case Xd_TooLarge => k_is)
    (case Xe_TooLarge => k_is)
    (case Xf_TooLarge => k_is)
    (case Xg_TooLarge => k_is)
    (case Xh_TooLarge => k_is)
    (case Xi_TooLarge => k_is)
    (case E_TooLarge_BadJoint => first | k_is | rfl | decide +kernel)
    (case E_TooLarge_LaidError => first | k_is | rfl | decide +kernel)
    (case E_TooLarge_TooLarge => first | k_is | rfl | decide +kernel)
    (case Q_TooLarge_BadJoint => first | k_is | rfl | decide +kernel)
    (case Q_TooLarge_ValueError => first | k_is | rfl | decide +kernel)
    (case P1_Joints => k_is)
    (case P2_Joints => k_is)
    (case P3_Joints => k_is)
    (case P4_Joints => k_is)
    (case M1_Joints => k_is)
    (case M3_Joints => k_is)
    (case M4_Joints => k_is)
    (case N_Joints_lines => k_is)
    (case N_Joints_readings => k_is)
    (case m2_Joints___iter__ => k_is)
    (case m2_Joints___len__ => k_is)
    (case R1_Joints => k_is)
    (case R2_Joints => k_is)
end S_P_top
