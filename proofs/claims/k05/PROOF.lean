import PyProof.Rows.All
import Wide.All
import OpenK.AllK
import Wide.FinOn
import HandS.ForMost
import HandS.ForExc
import HandS.Evl
import HandS.Walk
import HandS.IsInst
import KE.KDictKeyed
import HandS.TupAny
import HandS.Deep
import HandS.Flow
import HandS.Wide
import HandS.Text
import HandS.CallSlots
import HandS.ExcCtx
import HandS.HotCalls
import HandS.ExcInit
import HandS.ExcField
import HandS.ExcIs
import KE.KExcIs
import HandS.ExcInitHot
import HandS.FStr
import HandS.Iter
import HandS.Zip0
import PyProof.EnumMake
import PyProof.Draws
import HandS.Style
import HandS.ClsMeth
import KE.GoesMore
import KE.GoesZip
import PyProof.StrOps2
import PyProof.Rows.MatchSeqLen
import KE.KUnpack
import HandS.NoneIn
import HandS.More
import HandS.Star
import HandS.SlotsOwn
import HandS.OwnIter
import HandS.IterVal
import KE.KCallOwn
import KE.KOwnIter
import HandS.TupLen
import HandS.Property
import HandS.Conv
import HandS.SortRule
import KE.KDictDisplayH
import HandS.Defaults
import HandS.TryOnly
import HandS.SortInts
import HandS.SortOrd
import HandS.DictComp
import KE.DataMinMax
import KE.KDictCopyH
import HandS.ListItems
import PyProof.ListStr
import PyProof.InstNe
import HandS.MakeKwOnly
import KE.KTupSum
import HandS.TryMany
import KE.KEqDict
import PyProof.EqKinds
import HandS.RaiseMore
import HandS.StrMore
import HandS.TupLe
import HandS.OwnEq
import PyProof.ListRange
import KE.KDictZip
import HandS.GenList
import PySem.Challenge.RW_laidforall_k05_grammars
set_option Elab.async false
set_option linter.all false
set_option maxRecDepth 100000
section S_DxA
set_option Elab.async false
set_option linter.all false
set_option maxRecDepth 100000
namespace Dx
open PySem L2
/-- data: what a value stands for, whatever its address -/
inductive D where
  | non
  | bl (b : Bool)
  | int (i : Int)
  | str (s : Str)
  | lst (xs : List D)
  | fz (xs : List D)
  | tup (xs : List D)
  | kt (xs : List D)
  | dk (ks : List Key) (vs : List D)
  | dt (ks : List (List Key)) (vs : List D)
  | dn (ks vs : List D)
  | obj (c : Str) (ns : List Str) (vs : List D)
  | own (k : Nat)
  | st (k : Nat) (rows : List (List D))
/-- where the classes of the text stand -/
abbrev CM := Str → Option Addr
/-- H' knows all that H knows -/
def Ex (H H' : Hp) : Prop := ∀ a o, H a = some o → H' a = some o
theorem Ex.refl {H : Hp} : Ex H H := fun _ _ h => h
theorem Ex.trans {H H1 H2 : Hp} (a : Ex H H1) (b : Ex H1 H2) : Ex H H2 := fun x o h => b x o (a x o h)
theorem Ex.nn {H H' : Hp} (e : Ex H H') {p : Addr} (h : H' p = none) : H p = none := by
  cases h1 : H p with
  | none => rfl
  | some o => rw [e p o h1] at h; cases h
theorem Ex.new {H : Hp} {p : Addr} {o : HO} (h : H p = none) : Ex H (upd H p o) := fun a u e => by
  rw [upd_ne (ne_of_none e h)]; exact e
theorem Ex.put {H H' : Hp} {p : Addr} {o : HO} (e : Ex H H') (h : H p = none) : Ex H (upd H' p o) := fun a u ha => by
  rw [upd_ne (ne_of_none ha h)]; exact e a u ha
theorem Ex.both {S H : Hp} {p : Addr} {o : HO} (e : Ex S H) : Ex (upd S p o) (upd H p o) := fun a u ha => by
  by_cases h : a = p
  · subst h; rw [upd_same] at ha ⊢; exact ha
  · rw [upd_ne h] at ha ⊢; exact e a u ha
theorem Ex.rd {H H' : Hp} {a : Addr} {u : HO} (e : Ex H H') (h : Rd H a u) : Rd H' a u := by
  rcases h with h | ⟨o, h⟩
  · exact .inl (e a _ h)
  · exact .inr ⟨o, e a _ h⟩
theorem Ex.l {K : PySem.W.Frag} {H H' : Hp} {a : Addr} {xs : List V} (e : Ex H H') (h : SqL K H a xs) : SqL K H' a xs := by
  rcases h with h | h
  · exact .inl (e.rd h)
  · exact .inr h
theorem Ex.t {K : PySem.W.Frag} {H H' : Hp} {a : Addr} {xs : List V} (e : Ex H H') (h : SqT K H a xs) : SqT K H' a xs := by
  rcases h with h | h
  · exact .inl (e.rd h)
  · exact .inr h
mutual
def nkD : D → Option NestedKey
  | .non => some .none
  | .bl b => some (.num (if b = true then 1 else 0))
  | .int i => some (.num i)
  | .tup ds => (nkL ds).map .tup
  | .kt ds => (nkL ds).map .tup
  | _ => none
def nkL : List D → Option (List NestedKey)
  | [] => some []
  | d :: ds => match nkD d, nkL ds with
    | some k, some ks => some (k :: ks)
    | _, _ => none
end
/-- a key: a tuple, not too deep -/
def nkT (d : D) : Option NestedKey := match nkD d with
  | some (.tup ks) => if (NestedKey.tup ks).depth ≤ 8 then some (.tup ks) else none
  | _ => none
/-- an entry, its value told -/
def EntOk (e : NestedKey × Addr × V) (x : NestedKey × Addr × Value) : Prop := e.1 = x.1 ∧ e.2.1 = x.2.1 ∧ RelV e.2.2 x.2.2
/-- what stands at p; no text is in the keys, so their hashes are the same in every world -/
def dnP (p : Addr) (es : List (NestedKey × Addr × V)) (h : Heap) : Prop :=
  (p == sysModules) = false ∧ ∃ (xs : List (NestedKey × Addr × Value)) (o : Obj) (eps : Array DictEntry) (ep : Nat), Paired EntOk es xs ∧ h.get? p = some o ∧ o.ExactDict ∧ o.data = .dict eps ep ∧ ∀ w : World, eps.toList = xs.map fun x => ⟨x.1.hash w, .ref x.2.1, x.2.2⟩
/-- the keys by data -/
structure NkOk (es : List (NestedKey × Addr × V)) (ks : List D) : Prop where
  eq : ks.map nkT = es.map fun e => some e.1
  nd : (es.map (·.1)).Nodup
  sz : es.length ≤ sizeLine
mutual
/-- the value v, at the heap S, stands for the data -/
inductive Rp (K : PySem.W.Frag) (cm : CM) (S : Hp) : V → D → Prop
  | non : Rp K cm S .non .non
  | bl (b : Bool) : Rp K cm S (.bl b) (.bl b)
  | int (i : Int) : Rp K cm S (.int i) (.int i)
  | str (x : Str) : Rp K cm S (.str x) (.str x)
  | lst {a : Addr} {xs : List V} {ds : List D} : S a = some (.lst xs) → RpA K cm S xs ds → Rp K cm S (.ref a) (.lst ds)
  | fz {a : Addr} {xs : List V} {ds : List D} : SqL K S a xs → RpA K cm S xs ds → Rp K cm S (.ref a) (.fz ds)
  | tup {a : Addr} {xs : List V} {ds : List D} : S a = some (.tup xs) → RpA K cm S xs ds → Rp K cm S (.ref a) (.tup ds)
  | kt {a : Addr} {xs : List V} {ds : List D} : SqT K S a xs → RpA K cm S xs ds → Rp K cm S (.ref a) (.kt ds)
  | dk {a : Addr} {w : Obj} {kvs : List (Key × V)} {ks : List Key} {ds : List D} : S a = some (.frz w (.dK kvs)) → ks = kvs.map (·.1) → RpA K cm S (kvs.map (·.2)) ds → Rp K cm S (.ref a) (.dk ks ds)
  | dt {a : Addr} {w : Obj} {kvs : List (List Key × V)} {ks : List (List Key)} {ds : List D} : S a = some (.frz w (.dT kvs)) → ks = kvs.map (·.1) → RpA K cm S (kvs.map (·.2)) ds → Rp K cm S (.ref a) (.dt ks ds)
  | dn {a p : Addr} {w : Obj} {es : List (NestedKey × Addr × V)} {ks ds : List D} : S a = some (.frz w (.ext (dnP p es))) → NkOk es ks → RpA K cm S (es.map fun e => .ref e.2.1) ks → RpA K cm S (es.map (·.2.2)) ds → Rp K cm S (.ref a) (.dn ks ds)
  | obj {a C dx : Addr} {c : Str} {fs : List (Str × V)} {ns : List Str} {ds : List D} : cm c = some C → S a = some (.ins C dx fs) → ns = fs.map (·.1) → RpA K cm S (fs.map (·.2)) ds → Rp K cm S (.ref a) (.obj c ns ds)
inductive RpA (K : PySem.W.Frag) (cm : CM) (S : Hp) : List V → List D → Prop
  | nil : RpA K cm S [] []
  | cons {v : V} {vs : List V} {d : D} {ds : List D} : Rp K cm S v d → RpA K cm S vs ds → RpA K cm S (v :: vs) (d :: ds)
end
section
variable {K : PySem.W.Frag} {cm : CM} {S S' : Hp}
mutual
theorem Rp.mono (e : Ex S S') : ∀ {v : V} {d : D}, Rp K cm S v d → Rp K cm S' v d
  | _, .non, h => by cases h; exact .non
  | _, .bl _, h => by cases h; exact .bl _
  | _, .int _, h => by cases h; exact .int _
  | _, .str _, h => by cases h; exact .str _
  | _, .lst ds, h => by cases h with | lst q r => exact .lst (e _ _ q) (RpA.mono e r)
  | _, .fz ds, h => by cases h with | fz q r => exact .fz (e.l q) (RpA.mono e r)
  | _, .tup ds, h => by cases h with | tup q r => exact .tup (e _ _ q) (RpA.mono e r)
  | _, .kt ds, h => by cases h with | kt q r => exact .kt (e.t q) (RpA.mono e r)
  | _, .dk _ ds, h => by cases h with | dk q k r => exact .dk (e _ _ q) k (RpA.mono e r)
  | _, .dt _ ds, h => by cases h with | dt q k r => exact .dt (e _ _ q) k (RpA.mono e r)
  | _, .dn ks ds, h => by cases h with | dn q k r1 r2 => exact .dn (e _ _ q) k (RpA.mono e r1) (RpA.mono e r2)
  | _, .obj _ _ ds, h => by cases h with | obj c q k r => exact .obj c (e _ _ q) k (RpA.mono e r)
theorem RpA.mono (e : Ex S S') : ∀ {vs : List V} {ds : List D}, RpA K cm S vs ds → RpA K cm S' vs ds
  | _, [], h => by cases h; exact .nil
  | _, d :: ds, h => by cases h with | cons a r => exact .cons (Rp.mono e a) (RpA.mono e r)
end
theorem RpA.length : ∀ {vs : List V} {ds : List D}, RpA K cm S vs ds → vs.length = ds.length
  | _, _, .nil => rfl
  | _, _, .cons _ r => by simp [RpA.length r]
theorem RpA.get : ∀ {vs : List V} {ds : List D} {i : Nat} {d : D}, RpA K cm S vs ds → ds[i]? = some d → ∃ v, vs[i]? = some v ∧ Rp K cm S v d
  | _, _, _, _, .nil, e => by simp at e
  | _, _, 0, _, .cons h _, e => by simp at e; subst e; exact ⟨_, by simp, h⟩
  | _, _, i + 1, d, .cons _ r, e => by
    obtain ⟨v, h1, h2⟩ := RpA.get (i := i) (d := d) r (by simpa using e)
    exact ⟨v, by simpa using h1, h2⟩
theorem RpA.getV : ∀ {vs : List V} {ds : List D} {i : Nat} {v : V}, RpA K cm S vs ds → vs[i]? = some v → ∃ d, ds[i]? = some d ∧ Rp K cm S v d
  | _, _, _, _, .nil, e => by simp at e
  | _, _, 0, _, .cons h _, e => by simp at e; subst e; exact ⟨_, by simp, h⟩
  | _, _, i + 1, v, .cons _ r, e => by
    obtain ⟨d, h1, h2⟩ := RpA.getV (i := i) (v := v) r (by simpa using e)
    exact ⟨d, by simpa using h1, h2⟩
theorem RpA.app : ∀ {vs us : List V} {ds es : List D}, RpA K cm S vs ds → RpA K cm S us es → RpA K cm S (vs ++ us) (ds ++ es)
  | _, _, _, _, .nil, s => s
  | _, _, _, _, .cons h r, s => .cons h (RpA.app r s)
theorem RpA.one {v : V} {d : D} (h : Rp K cm S v d) : RpA K cm S [v] [d] := .cons h .nil
theorem RpA.take : ∀ {vs : List V} {ds : List D} (n : Nat), RpA K cm S vs ds → RpA K cm S (vs.take n) (ds.take n)
  | _, _, 0, _ => .nil
  | _, _, _ + 1, .nil => .nil
  | _, _, n + 1, .cons h r => .cons h (RpA.take n r)
theorem RpA.drop : ∀ {vs : List V} {ds : List D} (n : Nat), RpA K cm S vs ds → RpA K cm S (vs.drop n) (ds.drop n)
  | _, _, 0, r => r
  | _, _, _ + 1, .nil => .nil
  | _, _, n + 1, .cons _ r => RpA.drop n r
theorem RpA.set {v : V} {d : D} (h : Rp K cm S v d) : ∀ {vs : List V} {ds : List D} (i : Nat), RpA K cm S vs ds → RpA K cm S (vs.set i v) (ds.set i d)
  | _, _, _, .nil => .nil
  | _, _, 0, .cons _ r => .cons h r
  | _, _, i + 1, .cons q r => .cons q (RpA.set h i r)
theorem RpA.reverse : ∀ {vs : List V} {ds : List D}, RpA K cm S vs ds → RpA K cm S vs.reverse ds.reverse
  | _, _, .nil => .nil
  | _, _, .cons h r => by rw [List.reverse_cons, List.reverse_cons]; exact (RpA.reverse r).app (.one h)
end
/-- the content of a mutable object stands for the data, its parts at S -/
inductive RpO (K : PySem.W.Frag) (cm : CM) (S : Hp) : HO → D → Prop
  | lst {xs : List V} {ds : List D} : RpA K cm S xs ds → RpO K cm S (.lst xs) (.lst ds)
  | dk {kvs : List (Key × V)} {ks : List Key} {ds : List D} : ks = kvs.map (·.1) → RpA K cm S (kvs.map (·.2)) ds → RpO K cm S (.dK kvs) (.dk ks ds)
  | dt {kvs : List (List Key × V)} {ks : List (List Key)} {ds : List D} : ks = kvs.map (·.1) → RpA K cm S (kvs.map (·.2)) ds → RpO K cm S (.dT kvs) (.dt ks ds)
  | dn {p : Addr} {es : List (NestedKey × Addr × V)} {ks ds : List D} : NkOk es ks → RpA K cm S (es.map fun e => .ref e.2.1) ks → RpA K cm S (es.map (·.2.2)) ds → RpO K cm S (.ext (dnP p es)) (.dn ks ds)
  | obj {C dx : Addr} {c : Str} {fs : List (Str × V)} {ns : List Str} {ds : List D} : cm c = some C → ns = fs.map (·.1) → RpA K cm S (fs.map (·.2)) ds → RpO K cm S (.ins C dx fs) (.obj c ns ds)
theorem RpO.mono {K : PySem.W.Frag} {cm : CM} {S S' : Hp} (e : Ex S S') {o : HO} {d : D} (h : RpO K cm S o d) : RpO K cm S' o d := by
  cases h with
  | lst r => exact .lst (r.mono e)
  | dk k r => exact .dk k (r.mono e)
  | dt k r => exact .dt k (r.mono e)
  | dn k r1 r2 => exact .dn k (r1.mono e) (r2.mono e)
  | obj c k r => exact .obj c k (r.mono e)
def isDct : D → Bool
  | .dk _ _ => true
  | .dt _ _ => true
  | .dn _ _ => true
  | _ => false
theorem RpO.pub {K : PySem.W.Frag} {cm : CM} {S : Hp} {o : HO} {d : D} {p : Addr} (h : RpO K cm S o d) (nd : isDct d = false) (hp : S p = o) : Rp K cm S (.ref p) d := by
  cases h with
  | lst r => exact .lst hp r
  | dk k r => cases nd
  | dt k r => cases nd
  | dn k r1 r2 => cases nd
  | obj c k r => exact .obj c hp k r
theorem RpO.pubD {K : PySem.W.Frag} {cm : CM} {S : Hp} {o : HO} {d : D} {p : Addr} {w : Obj} (h : RpO K cm S o d) (nd : isDct d = true) (hp : S p = some (.frz w o)) : Rp K cm S (.ref p) d ∧ Mut (some o) := by
  cases h with
  | lst r => cases nd
  | dk k r => exact ⟨.dk hp k r, trivial⟩
  | dt k r => exact ⟨.dt hp k r, trivial⟩
  | dn k r1 r2 => exact ⟨.dn hp k r1 r2, trivial⟩
  | obj c k r => cases nd
theorem RpO.mut {K : PySem.W.Frag} {cm : CM} {S : Hp} {o : HO} {d : D} (h : RpO K cm S o d) : Mut (some o) := by
  cases h <;> trivial
/-- not there, or a tuple -/
def Old (o : Option HO) : Prop := o = none ∨ ∃ xs, o = some (.tup xs)
theorem Old.back {H H' : Hp} (e : Ex H H') {a : Addr} (h : Old (H' a)) : Old (H a) := by
  cases q : H a with
  | none => exact .inl rfl
  | some u =>
    rw [e a u q] at h
    rcases h with h | ⟨xs, h⟩
    · cases h
    · cases h; exact .inr ⟨xs, rfl⟩
theorem Old.not {H : Hp} {a : Addr} {o : HO} (h : Old (H a)) (q : H a = some o) : ∃ xs, o = .tup xs := by
  rw [q] at h
  rcases h with h | ⟨xs, h⟩
  · cases h
  · cases h; exact ⟨xs, rfl⟩
/-- S is the part of H that stays; from (S, H) to (S', H') nothing known has changed -/
structure Fwd (S H S' H' : Hp) : Prop where
  s : Ex S S'
  h : Ex H H'
  sub : Ex S' H'
  new : ∀ a o, S' a = some o → S a = none → Old (H a)
theorem Fwd.refl {S H : Hp} (e : Ex S H) : Fwd S H S H := ⟨Ex.refl, Ex.refl, e, fun a o h n => by rw [n] at h; cases h⟩
theorem Fwd.trans {S H S1 H1 S2 H2 : Hp} (a : Fwd S H S1 H1) (b : Fwd S1 H1 S2 H2) : Fwd S H S2 H2 :=
  ⟨a.s.trans b.s, a.h.trans b.h, b.sub, fun p o h n => by
    cases e : S1 p with
    | some u => exact a.new p u e n
    | none => exact (b.new p o h e).back a.h⟩
theorem Fwd.both {S H : Hp} {p : Addr} {o : HO} (e : Ex S H) (n : H p = none) : Fwd S H (upd S p o) (upd H p o) :=
  ⟨Ex.new (e.nn n), Ex.new n, e.both, fun a u h m => by
    by_cases ha : a = p
    · subst ha; exact .inl n
    · rw [upd_ne ha, m] at h; cases h⟩
theorem Fwd.heap {S H : Hp} {p : Addr} {o : HO} (e : Ex S H) (n : H p = none) : Fwd S H S (upd H p o) :=
  ⟨Ex.refl, Ex.new n, e.put (e.nn n), fun a u h m => by rw [m] at h; cases h⟩
/-- a new object known to H' alone becomes one that stays -/
theorem Fwd.pub {S H S' H' : Hp} {p : Addr} {o : HO} (f : Fwd S H S' H') (n : H p = none) (ns : S' p = none) (h : H' p = some o) : Fwd S H (upd S' p o) H' :=
  ⟨f.s.trans (Ex.new ns), f.h, fun a u ha => by
    by_cases hh : a = p
    · subst hh; rw [upd_same] at ha; rw [h]; exact ha
    · rw [upd_ne hh] at ha; exact f.sub a u ha, fun a u ha m => by
    by_cases hh : a = p
    · subst hh; exact .inl n
    · rw [upd_ne hh] at ha; exact f.new a u ha m⟩
inductive Res (α : Type) where
  | ok (a : α)
  | err (c : Str) (ns : List Str) (vs : List D)
  | bad
@[inline] def Res.bind {α β : Type} : Res α → (α → Res β) → Res β
  | .ok a, k => k a
  | .err c ns vs, _ => .err c ns vs
  | .bad, _ => .bad
instance : Monad Res where
  pure := Res.ok
  bind := Res.bind
abbrev Rho := List (Option D)
/-- the end of a statement -/
inductive SR where
  | nx (r : Rho)
  | rt (d : D)
  | bk (r : Rho)
  | ct (r : Rho)
  | er (r : Rho) (c : Str) (ns : List Str) (vs : List D)
  | bad
inductive Ow where
  | v | o | b | w
  | s (pre : List Addr)
  | x (a C dd : Addr)
  | i (a : Addr)
  | j (a : Addr) (fs : List (Str × V))
def isO : Ow → Prop
  | .o => True
  | .i _ => True
  | _ => False
structure Cf where
  K : PySem.W.Frag
  cm : CM
  W : WX
  ge : Option (List Ow)
  rm : Bool
/-- a value, or a mutable object read at H whose parts stay -/
def RpB (K : PySem.W.Frag) (cm : CM) (S H : Hp) (v : V) (d : D) : Prop :=
  Rp K cm S v d ∨ ∃ p ho, v = .ref p ∧ H p = some ho ∧ RpO K cm S ho d
section
variable {K : PySem.W.Frag} {cm : CM} {S S' H H' : Hp} {v : V} {d : D}
theorem RpB.mono (h : RpB K cm S H v d) (e : Ex S S') (e' : Ex H H') : RpB K cm S' H' v d := by
  rcases h with h | ⟨p, ho, h1, h2, h3⟩
  · exact .inl (h.mono e)
  · exact .inr ⟨p, ho, h1, e' _ _ h2, h3.mono e⟩
theorem RpB.list {ds : List D} (h : RpB K cm S H v (.lst ds)) (e : Ex S H) : ∃ p xs, v = .ref p ∧ H p = some (.lst xs) ∧ RpA K cm S xs ds := by
  rcases h with h | ⟨p, ho, h1, h2, h3⟩
  · cases h with | lst q r => exact ⟨_, _, rfl, e _ _ q, r⟩
  · cases h3 with | lst r => exact ⟨p, _, h1, h2, r⟩
theorem RpB.int {i : Int} (h : RpB K cm S H v (.int i)) : v = .int i := by
  rcases h with h | ⟨p, ho, h1, h2, h3⟩
  · cases h; rfl
  · cases h3
theorem RpB.bl {b : Bool} (h : RpB K cm S H v (.bl b)) : v = .bl b := by
  rcases h with h | ⟨p, ho, h1, h2, h3⟩
  · cases h; rfl
  · cases h3
theorem RpB.non (h : RpB K cm S H v .non) : v = .non := by
  rcases h with h | ⟨p, ho, h1, h2, h3⟩
  · cases h; rfl
  · cases h3
theorem RpB.str {z : Str} (h : RpB K cm S H v (.str z)) : v = .str z := by
  rcases h with h | ⟨p, ho, h1, h2, h3⟩
  · cases h; rfl
  · cases h3
theorem RpB.tup {ds : List D} (h : RpB K cm S H v (.tup ds)) (e : Ex S H) : ∃ p xs, v = .ref p ∧ SqT K H p xs ∧ RpA K cm S xs ds ∧ S p = some (.tup xs) := by
  rcases h with h | ⟨p, ho, h1, h2, h3⟩
  · cases h with | tup q r => exact ⟨_, _, rfl, .inl (.inl (e _ _ q)), r, q⟩
  · cases h3
theorem RpB.kt {ds : List D} (h : RpB K cm S H v (.kt ds)) (e : Ex S H) : ∃ p xs, v = .ref p ∧ SqT K H p xs ∧ RpA K cm S xs ds ∧ SqT K S p xs := by
  rcases h with h | ⟨p, ho, h1, h2, h3⟩
  · cases h with | kt q r => exact ⟨_, _, rfl, e.t q, r, q⟩
  · cases h3
theorem RpB.fz {ds : List D} (h : RpB K cm S H v (.fz ds)) (e : Ex S H) : ∃ p xs, v = .ref p ∧ SqL K H p xs ∧ RpA K cm S xs ds := by
  rcases h with h | ⟨p, ho, h1, h2, h3⟩
  · cases h with | fz q r => exact ⟨_, _, rfl, e.l q, r⟩
  · cases h3
theorem RpB.dk {ks : List Key} {ds : List D} (h : RpB K cm S H v (.dk ks ds)) (e : Ex S H) : ∃ p kvs, v = .ref p ∧ Rd H p (.dK kvs) ∧ ks = kvs.map (·.1) ∧ RpA K cm S (kvs.map (·.2)) ds := by
  rcases h with h | ⟨p, ho, h1, h2, h3⟩
  · cases h with | dk q k r => exact ⟨_, _, rfl, .inr ⟨_, e _ _ q⟩, k, r⟩
  · cases h3 with | dk k r => exact ⟨p, _, h1, .inl h2, k, r⟩
theorem RpB.dt {ks : List (List Key)} {ds : List D} (h : RpB K cm S H v (.dt ks ds)) (e : Ex S H) : ∃ p kvs, v = .ref p ∧ Rd H p (.dT kvs) ∧ ks = kvs.map (·.1) ∧ RpA K cm S (kvs.map (·.2)) ds := by
  rcases h with h | ⟨p, ho, h1, h2, h3⟩
  · cases h with | dt q k r => exact ⟨_, _, rfl, .inr ⟨_, e _ _ q⟩, k, r⟩
  · cases h3 with | dt k r => exact ⟨p, _, h1, .inl h2, k, r⟩
theorem RpB.dn {ks ds : List D} (h : RpB K cm S H v (.dn ks ds)) (e : Ex S H) : ∃ q p es, v = .ref q ∧ Rd H q (.ext (dnP p es)) ∧ NkOk es ks ∧ RpA K cm S (es.map fun e => .ref e.2.1) ks ∧ RpA K cm S (es.map (·.2.2)) ds := by
  rcases h with h | ⟨p, ho, h1, h2, h3⟩
  · cases h with | dn q k r1 r2 => exact ⟨_, _, _, rfl, .inr ⟨_, e _ _ q⟩, k, r1, r2⟩
  · cases h3 with | dn k r1 r2 => exact ⟨p, _, _, h1, .inl h2, k, r1, r2⟩
theorem RpB.obj {n : Str} {ns : List Str} {ds : List D} (h : RpB K cm S H v (.obj n ns ds)) (e : Ex S H) : ∃ p C dx fs, v = .ref p ∧ cm n = some C ∧ H p = some (.ins C dx fs) ∧ ns = fs.map (·.1) ∧ RpA K cm S (fs.map (·.2)) ds := by
  rcases h with h | ⟨p, ho, h1, h2, h3⟩
  · cases h with | obj c q k r => exact ⟨_, _, _, _, rfl, c, e _ _ q, k, r⟩
  · cases h3 with | obj c k r => exact ⟨p, _, _, _, h1, c, h2, k, r⟩
end
/-- a value, or one of the own lists at the places A -/
def RmV (K : PySem.W.Frag) (cm : CM) (A : List Addr) (S : Hp) (v : V) (d : D) : Prop := Rp K cm S v d ∨ ∃ k a, d = .own k ∧ A[k]? = some a ∧ v = .ref a
def RmA (K : PySem.W.Frag) (cm : CM) (A : List Addr) (S : Hp) (vs : List V) (ds : List D) : Prop := vs.length = ds.length ∧ ∀ (i : Nat) v d, vs[i]? = some v → ds[i]? = some d → RmV K cm A S v d
def SlotOk (c : Cf) (H0 S H : Hp) : Ow → V → D → Prop
  | .v, v, d => Rp c.K c.cm S v d
  | .o, v, d => ∃ p ho, v = .ref p ∧ H p = some ho ∧ S p = none ∧ H0 p = none ∧ RpO c.K c.cm S ho d
  | .i a, v, d => v = .ref a ∧ ∃ p ho, v = .ref p ∧ H p = some ho ∧ S p = none ∧ H0 p = none ∧ RpO c.K c.cm S ho d
  | .b, v, d => RpB c.K c.cm S H0 v d
  | .j a fs, v, d => v = .ref a ∧ ∃ C dx n, c.cm n = some C ∧ H0 a = some (.ins C dx fs) ∧ d = .obj n [] []
  | .s _, v, d => ∃ k M, d = .st k M
  | .w, v, d => ∃ k, d = .own k
  | .x a C dd, v, d => v = .ref a ∧ ∃ n ns ds fs, d = .obj n ns ds ∧ c.cm n = some C ∧ S dd = some (.xd fs) ∧ ns = fs.map (·.1) ∧ RpA c.K c.cm S (fs.map (·.2)) ds
abbrev kd (G : List Ow) (i : Nat) : Ow := G.getD i .v
/-- the own lists that stand in each other, at the places A -/
structure StoOk (K : PySem.W.Frag) (cm : CM) (H0 : Hp) (G : List Ow) (S H : Hp) (σ : St) (r : Rho) (A : List Addr) : Prop where
  nod : A.Nodup
  out : ∀ a ∈ A, S a = none ∧ H0 a = none ∧ ∃ xs, H a = some (.lst xs)
  own : ∀ i d p, r[i]? = some (some d) → isO (kd G i) → σ[i]? = some (some (.ref p)) → p ∉ A
  st : ∀ i k M P, kd G i = .s P → r[i]? = some (some (.st k M)) → (P <+: A ∧ A.length = M.length) ∧ (∃ a, A[k]? = some a ∧ σ[i]? = some (some (.ref a))) ∧ ∀ (n : Nat) row, M[n]? = some row → ∃ a xs, A[n]? = some a ∧ H a = some (.lst xs) ∧ RmA K cm A S xs row
  al : ∀ i k, kd G i = .w → r[i]? = some (some (.own k)) → ∃ a, A[k]? = some a ∧ σ[i]? = some (some (.ref a))
theorem RmA.mono {K : PySem.W.Frag} {cm : CM} {A : List Addr} {S S' : Hp} {vs : List V} {ds : List D} (h : RmA K cm A S vs ds) (e : Ex S S') : RmA K cm A S' vs ds :=
  ⟨h.1, fun i v d hv hd => (h.2 i v d hv hd).imp (fun z => z.mono e) id⟩
theorem StoOk.sub {K : PySem.W.Frag} {cm : CM} {H0 S H S' H' : Hp} {G G' : List Ow} {σ σ' : St} {r r' : Rho} {A : List Addr} (h : StoOk K cm H0 G S H σ r A) (hS : ∀ a ∈ A, S' a = none) (hH : ∀ a ∈ A, H' a = H a) (eS : Ex S S')
    (ho : ∀ i d p, r'[i]? = some (some d) → isO (kd G' i) → σ'[i]? = some (some (.ref p)) → p ∉ A)
    (hs : ∀ i d, (∃ P, kd G' i = .s P) ∨ kd G' i = .w → r'[i]? = some (some d) → kd G i = kd G' i ∧ r[i]? = some (some d) ∧ σ'[i]? = σ[i]?) : StoOk K cm H0 G' S' H' σ' r' A where
  nod := h.nod
  out := fun a ha => by
    obtain ⟨_, h2, h3⟩ := h.out a ha
    exact ⟨hS a ha, h2, by rw [hH a ha]; exact h3⟩
  own := ho
  st := fun i k M P hi hr => by
    obtain ⟨a1, a2, a3⟩ := hs i _ (.inl ⟨P, hi⟩) hr
    obtain ⟨b1, b2, b3⟩ := h.st i k M P (a1.trans hi) a2
    refine ⟨b1, by rw [a3]; exact b2, fun n row hn => ?_⟩
    obtain ⟨a, xs, c1, c2, c3⟩ := b3 n row hn
    exact ⟨a, xs, c1, by rw [hH a (List.mem_of_getElem? c1)]; exact c2, c3.mono eS⟩
  al := fun i k hi hr => by
    obtain ⟨a1, a2, a3⟩ := hs i _ (.inr hi) hr
    rw [a3]
    exact h.al i k (a1.trans hi) a2
theorem StoOk.go {K : PySem.W.Frag} {cm : CM} {H0 S H S' H' : Hp} {G : List Ow} {σ : St} {r : Rho} {A : List Addr} (h : StoOk K cm H0 G S H σ r A) (f : Fwd S H S' H') : StoOk K cm H0 G S' H' σ r A :=
  h.sub (fun a ha => by
    obtain ⟨h1, _, xs, h3⟩ := h.out a ha
    cases e : S' a with
    | none => rfl
    | some u => obtain ⟨ys, z⟩ := (f.new a u e h1).not h3; cases z) (fun a ha => by
    obtain ⟨_, _, xs, h3⟩ := h.out a ha
    rw [h3]; exact f.h a _ h3) f.s h.own fun i d hi hr => ⟨rfl, hr, rfl⟩
/-- no such lists -/
theorem StoOk.nil {K : PySem.W.Frag} {cm : CM} {H0 S H : Hp} {G : List Ow} {σ : St} {r : Rho} (h : ∀ i d, r[i]? = some (some d) → (∀ P, kd G i ≠ .s P) ∧ kd G i ≠ .w) : StoOk K cm H0 G S H σ r [] where
  nod := List.nodup_nil
  out := fun a ha => by cases ha
  own := fun i d p _ _ _ hp => by cases hp
  st := fun i k M P hi hr => absurd hi ((h i _ hr).1 P)
  al := fun i k hi hr => absurd hi (h i _ hr).2
structure EnvOk (c : Cf) (S0 H0 : Hp) (G : List Ow) (S H : Hp) (σ : St) (r : Rho) : Prop where
  fwd : Fwd S0 H0 S H
  len : σ.length = r.length
  slot : ∀ i d, r[i]? = some (some d) → ∃ v, σ[i]? = some (some v) ∧ SlotOk c H0 S H (kd G i) v d
  sep : ∀ i j d e p, r[i]? = some (some d) → r[j]? = some (some e) → isO (kd G i) → isO (kd G j) → σ[i]? = some (some (.ref p)) → σ[j]? = some (some (.ref p)) → i = j
  sto : ∃ A, StoOk c.K c.cm H0 G S H σ r A
section
variable {c : Cf} {S0 H0 S H S' H' : Hp} {G : List Ow} {σ : St} {r : Rho}
theorem SlotOk.o_of {k : Ow} {v : V} {d : D} (h : SlotOk c H0 S H k v d) (q : isO k) : ∃ p ho, v = .ref p ∧ H p = some ho ∧ S p = none ∧ H0 p = none ∧ RpO c.K c.cm S ho d := by
  cases k with
  | o => exact h
  | i a => exact h.2
  | _ => cases q
theorem SlotOk.mono {k : Ow} {v : V} {d : D} (h : SlotOk c H0 S H k v d) (f : Fwd S H S' H') : SlotOk c H0 S' H' k v d := by
  cases k with
  | v => exact Rp.mono f.s h
  | o =>
    obtain ⟨p, ho, h1, h2, h3, h4, h5⟩ := h
    refine ⟨p, ho, h1, f.h p _ h2, ?_, h4, h5.mono f.s⟩
    cases e : S' p with
    | none => rfl
    | some u => obtain ⟨ys, z⟩ := (f.new p u e h3).not h2; subst z; cases h5
  | i a =>
    obtain ⟨h0, p, ho, h1, h2, h3, h4, h5⟩ := h
    refine ⟨h0, p, ho, h1, f.h p _ h2, ?_, h4, h5.mono f.s⟩
    cases e : S' p with
    | none => rfl
    | some u => obtain ⟨ys, z⟩ := (f.new p u e h3).not h2; subst z; cases h5
  | b => exact RpB.mono h f.s Ex.refl
  | j a fs => exact h
  | s P => exact h
  | w => exact h
  | x a C dd =>
    obtain ⟨h1, n, ns, ds, fs, h2, h3, h4, h5, h6⟩ := h
    exact ⟨h1, n, ns, ds, fs, h2, h3, f.s _ _ h4, h5, h6.mono f.s⟩
theorem EnvOk.go (e : EnvOk c S0 H0 G S H σ r) (f : Fwd S H S' H') : EnvOk c S0 H0 G S' H' σ r :=
  ⟨e.fwd.trans f, e.len, fun i d h => let ⟨v, h1, h2⟩ := e.slot i d h; ⟨v, h1, h2.mono f⟩, e.sep, let ⟨A, h⟩ := e.sto; ⟨A, h.go f⟩⟩
theorem EnvOk.ex (e : EnvOk c S0 H0 G S H σ r) : Ex S H := e.fwd.sub
theorem kd_set_self (G : List Ow) (i : Nat) : kd (G.set i .v) i = .v := by
  show (G.set i .v).getD i .v = .v
  rw [List.getD_eq_getElem?_getD, List.getElem?_set]
  split
  · split <;> rfl
  · rename_i h; exact absurd rfl h
theorem kd_set_ne {G : List Ow} {i j : Nat} {k : Ow} (h : i ≠ j) : kd (G.set i k) j = kd G j := by
  show (G.set i k).getD j .v = G.getD j .v
  rw [List.getD_eq_getElem?_getD, List.getD_eq_getElem?_getD, List.getElem?_set_ne h]
theorem kd_set_o {G : List Ow} {i : Nat} {k : Ow} (h : i < G.length) : kd (G.set i k) i = k := by
  show (G.set i k).getD i .v = k
  rw [List.getD_eq_getElem?_getD, List.getElem?_set_self h]; rfl
theorem set_some {α : Type} {l : List (Option α)} {i j : Nat} {a : Option α} {b : α} (h : (l.set i a)[j]? = some (some b)) : (i = j ∧ a = some b ∧ i < l.length) ∨ (i ≠ j ∧ l[j]? = some (some b)) := by
  by_cases e : i = j
  · subst e
    rw [List.getElem?_set] at h
    rw [if_pos rfl] at h
    split at h
    · rename_i hl; exact .inl ⟨rfl, Option.some.inj h, hl⟩
    · cases h
  · rw [List.getElem?_set_ne e] at h
    exact .inr ⟨e, h⟩
/-- a slot gets a value -/
theorem EnvOk.setV (e : EnvOk c S0 H0 G S H σ r) {v : V} {d : D} (i : Nat) (h : Rp c.K c.cm S v d) : EnvOk c S0 H0 (G.set i .v) S H (σ.set i (some v)) (r.set i (some d)) := by
  refine ⟨e.fwd, by simp [e.len], fun j b hb => ?_, fun j k b b' p hj hk kj kk sj sk => ?_, let ⟨A, hA⟩ := e.sto; ⟨A, hA.sub (fun a ha => (hA.out a ha).1) (fun _ _ => rfl) Ex.refl (fun j b q hj kj sj => ?_) fun j b kj hj => ?_⟩⟩
  · rcases set_some hb with ⟨rfl, ea, hl⟩ | ⟨ne, hb⟩
    · cases ea
      exact ⟨v, by rw [List.getElem?_set_self (by rw [e.len]; exact hl)], by rw [kd_set_self]; exact h⟩
    · obtain ⟨u, h1, h2⟩ := e.slot j b hb
      exact ⟨u, by rw [List.getElem?_set_ne ne]; exact h1, by rw [kd_set_ne ne]; exact h2⟩
  · have nj : i ≠ j := fun z => by subst z; rw [kd_set_self] at kj; cases kj
    have nk : i ≠ k := fun z => by subst z; rw [kd_set_self] at kk; cases kk
    rw [List.getElem?_set_ne nj] at hj sj
    rw [List.getElem?_set_ne nk] at hk sk
    rw [kd_set_ne nj] at kj
    rw [kd_set_ne nk] at kk
    exact e.sep j k b b' p hj hk kj kk sj sk
  · have nj : i ≠ j := fun z => by subst z; rw [kd_set_self] at kj; cases kj
    rw [List.getElem?_set_ne nj] at hj sj
    rw [kd_set_ne nj] at kj
    exact hA.own j b q hj kj sj
  · have nj : i ≠ j := fun z => by subst z; rw [kd_set_self] at kj; rcases kj with ⟨_, kj⟩ | kj <;> cases kj
    rw [List.getElem?_set_ne nj] at hj
    rw [kd_set_ne nj, List.getElem?_set_ne nj]
    exact ⟨rfl, hj, rfl⟩
/-- a slot gets a new mutable object -/
theorem EnvOk.setO (e : EnvOk c S0 H0 G S H σ r) (f : Fwd S H S' H') {p : Addr} {ho : HO} {d : D} (i : Nat) (hi : i < G.length) (n : H p = none) (ns : S' p = none) (hp : H' p = some ho) (h : RpO c.K c.cm S' ho d) :
    EnvOk c S0 H0 (G.set i .o) S' H' (σ.set i (some (.ref p))) (r.set i (some d)) := by
  have e' := e.go f
  have fresh : ∀ j b, r[j]? = some (some b) → isO (kd G j) → σ[j]? ≠ some (some (.ref p)) := fun j b hb kj sj => by
    obtain ⟨u, h1, h2⟩ := e.slot j b hb
    obtain ⟨q, ho', z1, z2, _⟩ := h2.o_of kj
    rw [sj] at h1; cases h1; cases z1
    rw [n] at z2; cases z2
  refine ⟨e'.fwd, by simp [e.len], fun j b hb => ?_, fun j k b b' q hj hk kj kk sj sk => ?_, let ⟨A, hA⟩ := e.sto; ⟨A, (hA.go f).sub (fun a ha => ((hA.go f).out a ha).1) (fun _ _ => rfl) Ex.refl (fun j b q hj kj sj => ?_) fun j b kj hj => ?_⟩⟩
  · rcases set_some hb with ⟨rfl, ea, hl⟩ | ⟨ne, hb⟩
    · cases ea
      refine ⟨.ref p, by rw [List.getElem?_set_self (by rw [e.len]; exact hl)], ?_⟩
      rw [kd_set_o hi]
      exact ⟨p, ho, rfl, hp, ns, e.fwd.h.nn n, h⟩
    · obtain ⟨u, h1, h2⟩ := e'.slot j b hb
      exact ⟨u, by rw [List.getElem?_set_ne ne]; exact h1, by rw [kd_set_ne ne]; exact h2⟩
  · by_cases nj : i = j
    · by_cases nk : i = k
      · rw [← nj, nk]
      · subst nj
        exfalso
        rcases set_some sj with ⟨_, ea, _⟩ | ⟨ne, _⟩
        · cases ea
          rw [List.getElem?_set_ne nk] at hk sk
          rw [kd_set_ne nk] at kk
          exact fresh k _ hk kk sk
        · exact ne rfl
    · by_cases nk : i = k
      · subst nk
        exfalso
        rcases set_some sk with ⟨_, ea, _⟩ | ⟨ne, _⟩
        · cases ea
          rw [List.getElem?_set_ne nj] at hj sj
          rw [kd_set_ne nj] at kj
          exact fresh j _ hj kj sj
        · exact ne rfl
      · rw [List.getElem?_set_ne nj] at hj sj
        rw [List.getElem?_set_ne nk] at hk sk
        rw [kd_set_ne nj] at kj
        rw [kd_set_ne nk] at kk
        exact e.sep j k b b' q hj hk kj kk sj sk
  · rcases set_some sj with ⟨_, ea, _⟩ | ⟨nj, sj⟩
    · cases ea
      intro ha
      obtain ⟨_, _, xs, h3⟩ := hA.out p ha
      rw [n] at h3; cases h3
    · rw [List.getElem?_set_ne nj] at hj
      rw [kd_set_ne nj] at kj
      exact hA.own j b q hj kj sj
  · have nj : i ≠ j := fun z => by subst z; rw [kd_set_o hi] at kj; rcases kj with ⟨_, kj⟩ | kj <;> cases kj
    rw [List.getElem?_set_ne nj] at hj
    rw [kd_set_ne nj, List.getElem?_set_ne nj]
    exact ⟨rfl, hj, rfl⟩
/-- the own object in slot i: its place -/
theorem EnvOk.ownI (e : EnvOk c S0 H0 G S H σ r) {i : Nat} {d : D} (k : isO (kd G i)) (h : r[i]? = some (some d)) : ∃ p ho, σ[i]? = some (some (.ref p)) ∧ H p = some ho ∧ S p = none ∧ H0 p = none ∧ RpO c.K c.cm S ho d := by
  obtain ⟨v, h1, h2⟩ := e.slot i d h
  obtain ⟨p, ho, rfl, h3⟩ := h2.o_of k
  exact ⟨p, ho, h1, h3⟩
/-- the own object in slot i is changed -/
theorem EnvOk.mutI (e : EnvOk c S0 H0 G S H σ r) {i : Nat} {d d' : D} {p : Addr} {ho' : HO} (k : isO (kd G i)) (h : r[i]? = some (some d)) (hs : σ[i]? = some (some (.ref p))) (h' : RpO c.K c.cm S ho' d') :
    EnvOk c S0 H0 G S (upd H p ho') σ (r.set i (some d')) := by
  obtain ⟨q, ho, s1, s2, s3, s4, s5⟩ := e.ownI k h
  rw [hs] at s1; cases s1
  have hf : Fwd S0 H0 S (upd H p ho') := ⟨e.fwd.s, e.fwd.h.put s4, e.fwd.sub.put s3, e.fwd.new⟩
  refine ⟨hf, by simp [e.len], fun j b hb => ?_, fun j l b b' q hj hk kj kk sj sk => ?_, let ⟨A, hA⟩ := e.sto; ⟨A, hA.sub (fun a ha => (hA.out a ha).1) (fun a ha => upd_ne fun z => hA.own i d p h k hs (z ▸ ha)) Ex.refl (fun j b q hj kj sj => ?_) fun j b kj hj => ?_⟩⟩
  · rcases set_some hb with ⟨rfl, ea, hl⟩ | ⟨ne, hb⟩
    · cases ea
      refine ⟨.ref p, hs, ?_⟩
      cases kk : kd G i with
      | o => exact ⟨p, ho', rfl, upd_same, s3, s4, h'⟩
      | i a =>
        obtain ⟨u, h1, h2⟩ := e.slot i d h
        rw [kk] at h2
        rw [hs] at h1; cases h1
        exact ⟨h2.1, p, ho', rfl, upd_same, s3, s4, h'⟩
      | _ => rw [kk] at k; cases k
    · obtain ⟨u, h1, h2⟩ := e.slot j b hb
      refine ⟨u, h1, ?_⟩
      cases kj : kd G j with
      | v => rw [kj] at h2; exact h2
      | b => rw [kj] at h2; exact h2
      | s P => rw [kj] at h2; exact h2
      | w => rw [kj] at h2; exact h2
      | j a0 fs0 => rw [kj] at h2; exact h2
      | x a C dd => rw [kj] at h2; exact h2
      | o =>
        rw [kj] at h2
        obtain ⟨q, hq, z1, z2, z3, z4, z5⟩ := h2
        subst z1
        have : q ≠ p := fun z => by subst z; exact ne (e.sep i j d b q h hb k (by rw [kj]; trivial) hs h1)
        exact ⟨q, hq, rfl, by rw [upd_ne this]; exact z2, z3, z4, z5⟩
      | i a =>
        rw [kj] at h2
        obtain ⟨z0, q, hq, z1, z2, z3, z4, z5⟩ := h2
        subst z1
        have : q ≠ p := fun z => by subst z; exact ne (e.sep i j d b q h hb k (by rw [kj]; trivial) hs h1)
        exact ⟨z0, q, hq, rfl, by rw [upd_ne this]; exact z2, z3, z4, z5⟩
  · have un : ∀ m b, (r.set i (some d'))[m]? = some (some b) → ∃ b', r[m]? = some (some b') := fun m b hm => by
      rcases set_some hm with ⟨rfl, _, _⟩ | ⟨_, hm⟩
      · exact ⟨d, h⟩
      · exact ⟨b, hm⟩
    obtain ⟨b1, hj⟩ := un j b hj
    obtain ⟨b2, hk⟩ := un l b' hk
    exact e.sep j l b1 b2 q hj hk kj kk sj sk
  · rcases set_some hj with ⟨nj, _, _⟩ | ⟨_, hj⟩
    · subst nj
      exact hA.own i d q h kj sj
    · exact hA.own j b q hj kj sj
  · rcases set_some hj with ⟨nj, _, _⟩ | ⟨_, hj⟩
    · subst nj
      rcases kj with ⟨_, kj⟩ | kj <;> (rw [kj] at k; cases k)
    · exact ⟨rfl, hj, rfl⟩
theorem isO_o {k : Ow} (h : k = .o) : isO k := by rw [h]; trivial
theorem EnvOk.own (e : EnvOk c S0 H0 G S H σ r) {i : Nat} {d : D} (k : kd G i = .o) (h : r[i]? = some (some d)) : ∃ p ho, σ[i]? = some (some (.ref p)) ∧ H p = some ho ∧ S p = none ∧ H0 p = none ∧ RpO c.K c.cm S ho d := e.ownI (isO_o k) h
theorem EnvOk.mut (e : EnvOk c S0 H0 G S H σ r) {i : Nat} {d d' : D} {p : Addr} {ho' : HO} (k : kd G i = .o) (h : r[i]? = some (some d)) (hs : σ[i]? = some (some (.ref p))) (h' : RpO c.K c.cm S ho' d') :
    EnvOk c S0 H0 G S (upd H p ho') σ (r.set i (some d')) := e.mutI (isO_o k) h hs h'
theorem StoOk.un {A : List Addr} (hA : StoOk c.K c.cm H0 G S H σ r A) (i : Nat) (hk : kd G i = .o ∨ kd G i = .v) (hS : ∀ a ∈ A, S' a = none) (eS : Ex S S') : StoOk c.K c.cm H0 (G.set i .v) S' H σ r A :=
  hA.sub hS (fun _ _ => rfl) eS (fun j b q hj kj sj => by
    have nj : i ≠ j := fun z => by subst z; rw [kd_set_self] at kj; cases kj
    rw [kd_set_ne nj] at kj
    exact hA.own j b q hj kj sj) fun j b kj hj => by
    have nj : i ≠ j := fun z => by subst z; rw [kd_set_self] at kj; rcases kj with ⟨_, kj⟩ | kj <;> cases kj
    rw [kd_set_ne nj]
    exact ⟨rfl, hj, rfl⟩
theorem EnvOk.sto_un (e : EnvOk c S0 H0 G S H σ r) (i : Nat) (hk : kd G i = .o ∨ kd G i = .v) : ∃ A, StoOk c.K c.cm H0 (G.set i .v) S H σ r A :=
  let ⟨A, hA⟩ := e.sto
  ⟨A, hA.un i hk (fun a ha => (hA.out a ha).1) Ex.refl⟩
/-- the own object in slot i becomes a value, as ho2 -/
theorem EnvOk.pubG (e : EnvOk c S0 H0 G S H σ r) (i : Nat) (k : kd G i = .o) {d : D} (h : r[i]? = some (some d)) {p : Addr} {ho ho2 : HO} (s1 : σ[i]? = some (some (.ref p))) (s2 : H p = some ho) (s3 : S p = none) (s4 : H0 p = none) (hrp : Rp c.K c.cm (upd S p ho2) (.ref p) d) :
    EnvOk c S0 H0 (G.set i .v) (upd S p ho2) (upd H p ho2) σ r := by
  have hk : kd G i = .o ∨ kd G i = .v := .inl k
  have ex : Ex S (upd S p ho2) := Ex.new s3
  refine ⟨⟨e.fwd.s.trans ex, e.fwd.h.put s4, e.fwd.sub.both, fun a u ha m => ?_⟩, e.len, fun j b hb => ?_, fun j l b b' q hj hk kj kk sj sk => ?_, let ⟨A, hA⟩ := e.sto; ⟨A, ?_⟩⟩
  · by_cases hh : a = p
    · subst hh; exact .inl s4
    · rw [upd_ne hh] at ha; exact e.fwd.new a u ha m
  · by_cases ne : i = j
    · subst ne
      rw [h] at hb; cases hb
      refine ⟨.ref p, s1, ?_⟩
      rw [kd_set_self]
      exact hrp
    · obtain ⟨u, h1, h2⟩ := e.slot j b hb
      refine ⟨u, h1, ?_⟩
      rw [kd_set_ne ne]
      cases kj : kd G j with
      | v => rw [kj] at h2; exact Rp.mono ex h2
      | b => rw [kj] at h2; exact RpB.mono h2 ex Ex.refl
      | s P => rw [kj] at h2; exact h2
      | w => rw [kj] at h2; exact h2
      | j a0 fs0 => rw [kj] at h2; exact h2
      | x a C dd =>
        rw [kj] at h2
        obtain ⟨y1, n, ns, ds, fs, y2, y3, y4, y5, y6⟩ := h2
        exact ⟨y1, n, ns, ds, fs, y2, y3, ex _ _ y4, y5, y6.mono ex⟩
      | o =>
        rw [kj] at h2
        obtain ⟨q, hq, z1, z2, z3, z4, z5⟩ := h2
        subst z1
        have : q ≠ p := fun z => by subst z; exact ne (e.sep i j d b q h hb (isO_o k) (isO_o kj) s1 h1)
        exact ⟨q, hq, rfl, by rw [upd_ne this]; exact z2, by rw [upd_ne this]; exact z3, z4, z5.mono ex⟩
      | i a =>
        rw [kj] at h2
        obtain ⟨z0, q, hq, z1, z2, z3, z4, z5⟩ := h2
        subst z1
        have : q ≠ p := fun z => by subst z; exact ne (e.sep i j d b q h hb (isO_o k) (by rw [kj]; trivial) s1 h1)
        exact ⟨z0, q, hq, rfl, by rw [upd_ne this]; exact z2, by rw [upd_ne this]; exact z3, z4, z5.mono ex⟩
  · have nj : i ≠ j := fun z => by subst z; rw [kd_set_self] at kj; cases kj
    have nl : i ≠ l := fun z => by subst z; rw [kd_set_self] at kk; cases kk
    rw [kd_set_ne nj] at kj
    rw [kd_set_ne nl] at kk
    exact e.sep j l b b' q hj hk kj kk sj sk
  · have np : ∀ a ∈ A, a ≠ p := fun a ha z => hA.own i d p h (isO_o k) s1 (z ▸ ha)
    refine hA.sub (fun a ha => by rw [upd_ne (np a ha)]; exact (hA.out a ha).1) (fun a ha => upd_ne (np a ha)) ex (fun j b q hj kj sj => ?_) fun j b kj hj => ?_
    · have nj : i ≠ j := fun z => by subst z; rw [kd_set_self] at kj; cases kj
      rw [kd_set_ne nj] at kj
      exact hA.own j b q hj kj sj
    · have nj : i ≠ j := fun z => by subst z; rw [kd_set_self] at kj; rcases kj with ⟨_, kj⟩ | kj <;> cases kj
      rw [kd_set_ne nj]
      exact ⟨rfl, hj, rfl⟩
theorem upd_eq {H : Hp} {p : Addr} {o : HO} (h : H p = some o) : upd H p o = H := by
  funext a
  by_cases e : a = p
  · rw [e, upd_same, h]
  · rw [upd_ne e]
/-- an own dict becomes a value: it is locked -/
theorem EnvOk.pubD (e : EnvOk c S0 H0 G S H σ r) (i : Nat) (k : kd G i = .o) {d : D} (h : r[i]? = some (some d)) (hd : isDct d = true) : ∃ p u, H p = some u ∧ Mut (some u) ∧ ∀ w, ∃ S', EnvOk c S0 H0 (G.set i .v) S' (upd H p (.frz w u)) σ r := by
  obtain ⟨p, ho, s1, s2, s3, s4, s5⟩ := e.own k h
  exact ⟨p, ho, s2, s5.mut, fun w => ⟨_, e.pubG i k h s1 s2 s3 s4 ((s5.mono (Ex.new s3)).pubD hd upd_same).1⟩⟩
/-- the own object in slot i becomes a value -/
theorem EnvOk.pub (e : EnvOk c S0 H0 G S H σ r) (i : Nat) (hk : kd G i = .o ∨ kd G i = .v) (nd : ∀ d, r[i]? = some (some d) → isDct d = false) : ∃ S', EnvOk c S0 H0 (G.set i .v) S' H σ r := by
  by_cases k : kd G i = .o
  · cases h : r[i]? with
    | none =>
      refine ⟨S, e.fwd, e.len, fun j b hb => ?_, fun j l b b' q hj hk kj kk sj sk => ?_, e.sto_un i hk⟩
      · have ne : i ≠ j := fun z => by subst z; rw [h] at hb; cases hb
        obtain ⟨u, h1, h2⟩ := e.slot j b hb
        exact ⟨u, h1, by rw [kd_set_ne ne]; exact h2⟩
      · have nj : i ≠ j := fun z => by subst z; rw [h] at hj; cases hj
        have nl : i ≠ l := fun z => by subst z; rw [h] at hk; cases hk
        rw [kd_set_ne nj] at kj
        rw [kd_set_ne nl] at kk
        exact e.sep j l b b' q hj hk kj kk sj sk
    | some od =>
      cases od with
      | none =>
        refine ⟨S, e.fwd, e.len, fun j b hb => ?_, fun j l b b' q hj hk kj kk sj sk => ?_, e.sto_un i hk⟩
        · have ne : i ≠ j := fun z => by subst z; rw [h] at hb; cases hb
          obtain ⟨u, h1, h2⟩ := e.slot j b hb
          exact ⟨u, h1, by rw [kd_set_ne ne]; exact h2⟩
        · have nj : i ≠ j := fun z => by subst z; rw [h] at hj; cases hj
          have nl : i ≠ l := fun z => by subst z; rw [h] at hk; cases hk
          rw [kd_set_ne nj] at kj
          rw [kd_set_ne nl] at kk
          exact e.sep j l b b' q hj hk kj kk sj sk
      | some d =>
        obtain ⟨p, ho, s1, s2, s3, s4, s5⟩ := e.own k h
        have := e.pubG i k h s1 s2 s3 s4 (ho2 := ho) ((s5.mono (Ex.new s3)).pub (nd d h) upd_same)
        rw [upd_eq s2] at this
        exact ⟨_, this⟩
  · have k' : kd G i = .v := hk.resolve_left k
    have all : ∀ j, kd (G.set i .v) j = kd G j := fun j => by
      by_cases ne : i = j
      · subst ne; rw [kd_set_self, k']
      · exact kd_set_ne ne
    exact ⟨S, e.fwd, e.len, fun j b hb => by rw [all]; exact e.slot j b hb, fun j l b b' q hj hk kj kk sj sk => e.sep j l b b' q hj hk ((all j) ▸ kj) ((all l) ▸ kk) sj sk, e.sto_un i hk⟩
end
end Dx
end S_DxA
section S_DxB
set_option Elab.async false
set_option linter.all false
set_option maxRecDepth 100000
set_option maxHeartbeats 2000000
namespace Dx
open PySem L2
/-- what is wanted behind a result, from (S, H) on -/
def PostG (c : Cf) (σ : St) (S H : Hp) {α : Type} (r : Res α) (k : α → Hp → Hp → Prop) : Prop :=
  match r with
  | .ok a => ∀ S' H', Fwd S H S' H' → k a S' H'
  | .err n ns vs => ∀ C dd S' H' fs, c.cm n = some C → Fwd S H S' H' → S' dd = some (.xd fs) → ns = fs.map (·.1) → RpA c.K c.cm S' (fs.map (·.2)) vs → c.W (.ref C) (some dd) σ H'
  | .bad => False
section
variable {c : Cf} {σ : St} {S H S1 H1 : Hp} {α β : Type} {r : Res α} {k k' : α → Hp → Hp → Prop}
theorem PostG.mono (h : PostG c σ S H r k) (f : Fwd S H S1 H1) : PostG c σ S1 H1 r k := by
  cases r with
  | ok a => exact fun S' H' g => h S' H' (f.trans g)
  | err n ns vs => exact fun C dd S' H' fs h1 g h2 h3 h4 => h C dd S' H' fs h1 (f.trans g) h2 h3 h4
  | bad => exact h
theorem PostG.imp (h : PostG c σ S H r k) (hk : ∀ a S' H', Fwd S H S' H' → k a S' H' → k' a S' H') : PostG c σ S H r k' := by
  cases r with
  | ok a => exact fun S' H' g => hk a S' H' g (h S' H' g)
  | err n ns vs => exact h
  | bad => exact h
theorem PostG.unbind {g : α → Res β} {k : β → Hp → Hp → Prop} (h : PostG c σ S H (r.bind g) k) : PostG c σ S H r fun a S' H' => PostG c σ S' H' (g a) k := by
  cases r with
  | ok a => exact fun S' H' f => PostG.mono (show PostG c σ S H (g a) k from h) f
  | err n ns vs => exact h
  | bad => exact h
end
/-- x where p holds; nothing is reckoned for it -/
noncomputable def guard {α : Type} (p : Prop) (x : Res α) : Res α := @ite _ p (Classical.propDecidable p) x .bad
theorem guard_pos {α : Type} {p : Prop} {x : Res α} (h : p) : guard p x = x := by unfold guard; exact if_pos h
theorem PostG.gd {c : Cf} {σ : St} {S H : Hp} {α : Type} {p : Prop} {x : Res α} {k : α → Hp → Hp → Prop} (h : PostG c σ S H (guard p x) k) : p ∧ PostG c σ S H x k := by
  by_cases hp : p
  · rw [guard_pos hp] at h; exact ⟨hp, h⟩
  · unfold guard at h; rw [if_neg hp] at h; exact h.elim
/-- a mode: what the heap ahead, the heaps behind, the machine's result and the data have in common -/
abbrev Md (β α : Type) := Hp → Hp → Hp → β → α → Prop
class Anti {β α : Type} (R : Md β α) : Prop where
  anti : ∀ {H H2 S' H' : Hp} {b : β} {a : α}, Ex H H2 → R H2 S' H' b a → R H S' H' b a
def mV (c : Cf) : Md V D := fun _ S' _ v d => Rp c.K c.cm S' v d
def mB (c : Cf) : Md V D := fun _ S' H' v d => RpB c.K c.cm S' H' v d
def mO (c : Cf) : Md V D := fun H S' H' v d => ∃ p ho, v = .ref p ∧ H p = none ∧ S' p = none ∧ H' p = some ho ∧ RpO c.K c.cm S' ho d
def mA (c : Cf) : Md (List V) (List D) := fun _ S' _ vs ds => RpA c.K c.cm S' vs ds
def mE (α : Type) : Md α α := fun _ _ _ b a => b = a
instance {c : Cf} : Anti (mV c) := ⟨fun _ h => h⟩
instance {c : Cf} : Anti (mB c) := ⟨fun _ h => h⟩
instance {c : Cf} : Anti (mA c) := ⟨fun _ h => h⟩
instance {α : Type} : Anti (mE α) := ⟨fun _ h => h⟩
instance {c : Cf} : Anti (mO c) := ⟨fun e ⟨p, ho, h1, h2, h3⟩ => ⟨p, ho, h1, e.nn h2, h3⟩⟩
/-- the reading of a piece whose data is f -/
def rd (c : Cf) (G : List Ow) {α β : Type} (f : Rho → Res α) (R : Md β α) : St → Hp → (β → Hp → Prop) → Prop := fun σ H Q =>
  ∃ S0 H0 S r, EnvOk c S0 H0 G S H σ r ∧ PostG c σ S H (f r) fun a S' H' => ∀ b, R H S' H' b a → Q b H'
abbrev tV (c : Cf) (G : List Ow) (f : Rho → Res D) : TE := rd c G f (mV c)
abbrev tR (c : Cf) (G : List Ow) (f : Rho → Res D) : TE := rd c G f (mB c)
abbrev tO (c : Cf) (G : List Ow) (f : Rho → Res D) : TE := rd c G f (mO c)
abbrev tT (c : Cf) (G : List Ow) (f : Rho → Res Bool) : TT := rd c G f (mE Bool)
abbrev tAs (c : Cf) (G : List Ow) (f : Rho → Res (List D)) : TA := rd c G f (mA c)
theorem pe_imp {X : Cx} {e : Expr} {t t' : TE} (h : PE X e t) (k : ∀ σ H Q, t' σ H Q → t σ H Q) : PE X e t' := ⟨fun pins s σ H Q I q => h.run pins s σ H Q I (k σ H Q q)⟩
theorem pt_imp {X : Cx} {e : Expr} {t t' : TT} (h : PT X e t) (k : ∀ σ H Q, t' σ H Q → t σ H Q) : PT X e t' := ⟨fun pins s σ H Q I q => h.run pins s σ H Q I (k σ H Q q)⟩
theorem pa_imp {X : Cx} {es : List Expr} {t t' : TA} (h : PA X es t) (k : ∀ σ H Q, t' σ H Q → t σ H Q) : PA X es t' := ⟨fun p pins s σ H Q I q => h.run p pins s σ H Q I (k σ H Q q)⟩
theorem ps_imp {X : Cx} {st : Stmt} {t t' : TS} (h : PS X st t) (k : ∀ E σ H, t' E σ H → t E σ H) : PS X st t' := ⟨fun pins s σ H E I q => h.run pins s σ H E I (k E σ H q)⟩
theorem pss_imp {X : Cx} {st : List Stmt} {t t' : TS} (h : PSs X st t) (k : ∀ E σ H, t' E σ H → t E σ H) : PSs X st t' := ⟨fun pins s σ H E I q => h.run pins s σ H E I (k E σ H q)⟩
section
variable {c : Cf} {G : List Ow} {σ : St} {S0 H0 S H : Hp} {r : Rho} {α β γ : Type}
/-- one piece, then what follows -/
theorem rd_seq {f : Rho → Res α} {R : Md β α} (e : EnvOk c S0 H0 G S H σ r) {g : α → Res γ} {k : γ → Hp → Hp → Prop} (p : PostG c σ S H ((f r).bind g) k) {Q : β → Hp → Prop}
    (h : ∀ a b S' H', Fwd S H S' H' → EnvOk c S0 H0 G S' H' σ r → R H S' H' b a → PostG c σ S' H' (g a) k → Q b H') : rd c G f R σ H Q :=
  ⟨S0, H0, S, r, e, p.unbind.imp fun a S' H' fw hk b hb => h a b S' H' fw (e.go fw) hb hk⟩
theorem PostG.anti {R : Md β α} [Anti R] {H2 : Hp} {x : Res α} {Q : β → Hp → Prop} (e : Ex H H2) {S2 : Hp} (p : PostG c σ S2 H2 x fun a S' H' => ∀ b, R H S' H' b a → Q b H') :
    PostG c σ S2 H2 x fun a S' H' => ∀ b, R H2 S' H' b a → Q b H' := p.imp fun _ _ _ _ hk b hb => hk b (Anti.anti e hb)
/-- the wish behind a value that is there -/
theorem PostG.here {R : Md β α} {a : α} {b : β} {Q : β → Hp → Prop} (p : PostG c σ S H (.ok a) fun a S' H' => ∀ b, R H S' H' b a → Q b H') (e : Ex S H) (h : R H S H b a) : Q b H := p S H (Fwd.refl e) b h
theorem PostG.go {a : α} {k : α → Hp → Hp → Prop} (p : PostG c σ S H (.ok a) k) (e : Ex S H) : k a S H := p S H (Fwd.refl e)
/-- .. behind a new object that stays; that is kept own -/
theorem PostG.laid {d : D} {o : HO} {q : Addr} {Q : VK} (p : PostG c σ S H (.ok d) fun a S' H' => ∀ b, mV c H S' H' b a → Q b H') (e : Ex S H) (n : H q = none) (h : Rp c.K c.cm (upd S q o) (.ref q) d) : Q (.ref q) (upd H q o) :=
  p _ _ (Fwd.both e n) _ h
theorem PostG.kept {d : D} {o : HO} {q : Addr} {Q : VK} (p : PostG c σ S H (.ok d) fun a S' H' => ∀ b, mO c H S' H' b a → Q b H') (e : Ex S H) (n : H q = none) (h : RpO c.K c.cm S o d) : Q (.ref q) (upd H q o) :=
  p _ _ (Fwd.heap e n) _ ⟨q, o, rfl, n, e.nn n, upd_same, h⟩
end
/-- .. or so as soon as a told object is locked -/
def Lo (Q : Hp → Prop) (H : Hp) : Prop := Q H ∨ ∃ p u, H p = some u ∧ Mut (some u) ∧ ∀ w, Q (upd H p (.frz w u))
theorem Fwd.pubF {S H S' H' : Hp} {p : Addr} {o : HO} (f : Fwd S H S' H') (n : H p = none) (ns : S' p = none) : Fwd S H (upd S' p o) (upd H' p o) :=
  ⟨f.s.trans (Ex.new ns), f.h.put n, f.sub.both, fun a u ha m => by
    by_cases hh : a = p
    · subst hh; exact .inl n
    · rw [upd_ne hh] at ha; exact f.new a u ha m⟩
section
variable {X : Cx}
theorem pe_lock {e : Expr} {t t2 : TE} (h : PE X e t) (k : ∀ σ H Q, t2 σ H Q → t σ H fun v H' => Lo (Q v) H') : PE X e t2 := ⟨fun pins s σ H Q I q => thn (h.run pins s σ H _ I (k _ _ _ q)) fun u s' ⟨v, H', I', r, z⟩ => by
  rcases z with z | ⟨p, ho, h1, h2, z⟩
  · exact ⟨v, H', I', r, z⟩
  · obtain ⟨od, I2⟩ := I'.lock h1 h2
    exact ⟨v, _, I2, r, z od⟩⟩
theorem pss_lock {st : List Stmt} {t t2 : TS} (h : PSs X st t) (k : ∀ E σ H, t2 E σ H → Lo (fun H => t E σ H) H) : PSs X st t2 := ⟨fun pins s σ H E I q => by
  rcases k _ _ _ q with z | ⟨p, ho, h1, h2, z⟩
  · exact h.run pins s σ H E I z
  · obtain ⟨od, I2⟩ := I.lock h1 h2
    exact h.run pins s σ _ E I2 (z od)⟩
theorem pss_lockE {st : List Stmt} {t t2 : TS} (h : PSs X st t) (k : ∀ (E : Ends) σ H, t2 E σ H → t { E with nx := fun σ H => Lo (E.nx σ) H } σ H) : PSs X st t2 := ⟨fun pins s σ H E I q => thn (h.run pins s σ H _ I (k _ _ _ q)) fun f s' z => by
  cases f with
  | next =>
    obtain ⟨σ', H', I', z⟩ := z
    rcases z with z | ⟨p, ho, h1, h2, z⟩
    · exact ⟨σ', H', I', z⟩
    · obtain ⟨od, I2⟩ := I'.lock h1 h2
      exact ⟨σ', _, I2, z od⟩
  | brk => exact z
  | cont => exact z
  | ret u => exact z⟩
end
section
variable {X : Cx} {c : Cf} {G : List Ow} {f f1 f2 : Rho → Res D} {a b e : Expr} {pos : Pos}
theorem de_pub (h : PE X e (tO c G f)) : PE X e (tV c G f) := pe_lock h fun σ H Q ⟨S0, H0, S, r, ok, p⟩ => ⟨S0, H0, S, r, ok, by
  revert p
  cases f r with
  | ok d =>
    intro p S' H' fw b hb
    obtain ⟨q, ho, rfl, h1, h2, h3, h4⟩ := hb
    cases hd : isDct d with
    | false =>
      have fw' := fw.pub h1 h2 h3
      exact .inl (p _ H' fw' _ ((h4.mono (Ex.new h2)).pub hd upd_same))
    | true => exact .inr ⟨q, ho, h3, h4.mut, fun w => p _ _ (fw.pubF h1 h2) _ ((h4.mono (Ex.new h2)).pubD hd upd_same).1⟩
  | err n ns vs => exact id
  | bad => exact id⟩
theorem db_of (h : PE X e (tV c G f)) : PE X e (tR c G f) := pe_imp h fun σ H Q ⟨S0, H0, S, r, ok, p⟩ => ⟨S0, H0, S, r, ok, p.imp fun _ _ _ _ hk b hb => hk b (.inl hb)⟩
theorem db_own (h : PE X e (tO c G f)) : PE X e (tR c G f) := db_of (de_pub h)
def dVar (i : Nat) : Rho → Res D := fun r => match r[i]? with
  | some (some d) => .ok d
  | _ => .bad
def dC (d : D) : Rho → Res D := fun _ => .ok d
theorem of_dVar {σ : St} {S H : Hp} {i : Nat} {r : Rho} {k : D → Hp → Hp → Prop} (p : PostG c σ S H (dVar i r) k) : ∃ d, r[i]? = some (some d) ∧ PostG c σ S H (.ok d) k := by
  unfold dVar at p
  split at p
  · exact ⟨_, by assumption, p⟩
  · exact p.elim
theorem de_var (i : Nat) {x : Str} (h : PE X (.Name x pos) (tVar i)) (k : kd G i = .v) : PE X (.Name x pos) (tV c G (dVar i)) := pe_imp h fun σ H Q ⟨S0, H0, S, r, ok, p⟩ => by
  obtain ⟨d, hd, p⟩ := of_dVar p
  obtain ⟨v, h1, h2⟩ := ok.slot i d hd
  rw [k] at h2
  exact ⟨v, h1, p.here ok.ex h2⟩
theorem db_var (i : Nat) {x : Str} (h : PE X (.Name x pos) (tVar i)) (k : kd G i = .v ∨ isO (kd G i) ∨ kd G i = .b) : PE X (.Name x pos) (tR c G (dVar i)) := pe_imp h fun σ H Q ⟨S0, H0, S, r, ok, p⟩ => by
  obtain ⟨d, hd, p⟩ := of_dVar p
  obtain ⟨v, h1, h2⟩ := ok.slot i d hd
  refine ⟨v, h1, p.here ok.ex ?_⟩
  rcases k with k | k | k
  · rw [k] at h2; exact .inl h2
  · obtain ⟨q, ho, z1, z2, z3, z4, z5⟩ := h2.o_of k
    exact .inr ⟨q, ho, z1, z2, z5⟩
  · rw [k] at h2
    exact RpB.mono h2 Ex.refl ok.fwd.h
theorem de_c {v : V} {d : D} (h : PE X e (tC v)) (hd : ∀ S, Rp c.K c.cm S v d) : PE X e (tV c G (dC d)) := pe_imp h fun σ H Q ⟨S0, H0, S, r, ok, p⟩ => p.here ok.ex (hd S)
theorem de_int {i : Int} {j : Nat} : PE X (.Constant (.int i) j pos) (tV c G (dC (.int i))) := de_c pe_int fun _ => .int i
theorem de_bl {b : Bool} {j : Nat} : PE X (.Constant (.bool b) j pos) (tV c G (dC (.bl b))) := de_c pe_bl fun _ => .bl b
theorem de_non {j : Nat} : PE X (.Constant .none j pos) (tV c G (dC .non)) := de_c pe_non fun _ => .non
theorem de_str {x : Str} {j : Nat} : PE X (.Constant (.str x) j pos) (tV c G (dC (.str x))) := de_c pe_str fun _ => .str x
def dOp (g : D → D → Res D) (f1 f2 : Rho → Res D) : Rho → Res D := fun r => (f1 r).bind fun x => (f2 r).bind fun y => g x y
def OpS (c : Cf) (R : Md V D) (r2 : R2) (g : D → D → Res D) : Prop := ∀ (σ : St) (S H : Hp) (x y : V) (d e : D) (Q : VK), Ex S H → RpB c.K c.cm S H x d → RpB c.K c.cm S H y e →
  PostG c σ S H (g d e) (fun a S' H' => ∀ b, R H S' H' b a → Q b H') → r2 x y H Q
theorem op_rd {R : Md V D} [Anti R] {r2 : R2} {g : D → D → Res D} (hs : OpS c R r2 g) : ∀ σ H Q, rd c G (dOp g f1 f2) R σ H Q → tOp r2 (tR c G f1) (tR c G f2) σ H Q := fun σ H Q ⟨S0, H0, S, r, ok, p⟩ =>
  rd_seq ok p fun x v S1 H1 w1 o1 m1 p1 => rd_seq o1 p1 fun y u S2 H2 w2 o2 m2 p2 => hs σ S2 H2 v u x y Q o2.ex (RpB.mono m1 w2.s w2.h) m2 (p2.anti (w1.h.trans w2.h))
theorem de_op {R : Md V D} [Anti R] {op : Operator} {r2 : R2} {g : D → D → Res D} (ho : OpR X (binaryOp op) r2) (hs : OpS c R r2 g) (ha : PE X a (tR c G f1)) (hb : PE X b (tR c G f2)) : PE X (.BinOp a op b pos) (rd c G (dOp g f1 f2) R) :=
  pe_imp (pe_op ho ha hb) (op_rd hs)
theorem de_cmp {R : Md V D} [Anti R] {op : CmpOp} {r2 : R2} {g : D → D → Res D} (ho : OpR X (compareOp op) r2) (hs : OpS c R r2 g) (ha : PE X a (tR c G f1)) (hb : PE X b (tR c G f2)) (hm : behindInMarks op b = false) :
    PE X (.Compare a [op] [b] pos) (rd c G (dOp g f1 f2) R) := pe_imp (pe_cmpR ho ha hb hm) (op_rd hs)
/-- a truth value as a test -/
def asB : D → Res Bool
  | .bl b => .ok b
  | _ => .bad
def dT (f : Rho → Res D) : Rho → Res Bool := fun r => (f r).bind asB
theorem of_asB {σ : St} {S H : Hp} {d : D} {k : Bool → Hp → Hp → Prop} (p : PostG c σ S H (asB d) k) : ∃ b, d = .bl b ∧ PostG c σ S H (.ok b) k := by
  cases d with
  | bl b => exact ⟨b, rfl, p⟩
  | _ => exact p.elim
theorem dt_cmp {op : CmpOp} {r2 : R2} {g : D → D → Res D} (ho : OpR X (compareOp op) r2) (hs : OpS c (mV c) r2 g) (ha : PE X a (tR c G f1)) (hb : PE X b (tR c G f2)) (hm : behindInMarks op b = false) :
    PT X (.Compare a [op] [b] pos) (tT c G (dT (dOp g f1 f2))) := pt_imp (pt_cmpR ho ha hb hm) fun σ H Q ⟨S0, H0, S, r, ok, p⟩ => by
  refine op_rd (G := G) (f1 := f1) (f2 := f2) hs σ H _ (rd_seq ok p fun d v S1 H1 w1 o1 m1 p1 => ?_)
  obtain ⟨b, rfl, p1⟩ := of_asB p1
  cases m1
  exact ⟨b, rfl, p1.go o1.ex _ rfl⟩
/-- an expression whose value is True or False, as a test -/
theorem dt_val (h : PE X e (tV c G f)) (he : ∀ whole, isTrue e X.env whole = (do let v ← whole; standAt e.pos; holding [v] (truthy v)) := by intro _; rfl) : PT X e (tT c G (dT f)) :=
  pt_imp (pt_val h he) fun σ H Q ⟨S0, H0, S, r, ok, p⟩ => rd_seq ok p fun d v S1 H1 w1 o1 m1 p1 => by
    obtain ⟨b, rfl, p1⟩ := of_asB p1
    cases m1
    exact ⟨b, rfl, p1.go o1.ex _ rfl⟩
variable {t1 t2 : Rho → Res Bool} {rest : List Expr}
def dAnd (t u : Rho → Res Bool) : Rho → Res Bool := fun r => (t r).bind fun b => if b = true then u r else .ok false
def dOr (t u : Rho → Res Bool) : Rho → Res Bool := fun r => (t r).bind fun b => if b = true then .ok true else u r
def dNot (t : Rho → Res Bool) : Rho → Res Bool := fun r => (t r).bind fun b => .ok (!b)
def dIf {α : Type} (t : Rho → Res Bool) (f g : Rho → Res α) : Rho → Res α := fun r => (t r).bind fun b => if b = true then f r else g r
theorem pw_imp {t t' : TT} (h : PW X e t) (k : ∀ σ H Q, t' σ H Q → t σ H Q) : PW X e t' := ⟨fun w pins s σ H Q I q => h.run w pins s σ H Q I (k σ H Q q)⟩
theorem dw_and1 (ha : PT X a (tT c G t1)) : PW X (.BoolOp .And [a] pos) (tT c G t1) := pw_and1 ha
theorem dw_or1 (ha : PT X a (tT c G t1)) : PW X (.BoolOp .Or [a] pos) (tT c G t1) := pw_or1 ha
theorem dw_and (ha : PT X a (tT c G t1)) (hb : PW X (.BoolOp .And (b :: rest) pos) (tT c G t2)) : PW X (.BoolOp .And (a :: b :: rest) pos) (tT c G (dAnd t1 t2)) := pw_imp (pw_and ha hb) fun σ H Q ⟨S0, H0, S, r, ok, p⟩ =>
  rd_seq ok p fun x v S1 H1 w1 o1 m1 p1 => by
    rw [show v = x from m1]
    cases x with
    | true => exact ⟨S0, H0, S1, r, o1, p1⟩
    | false => exact p1.go o1.ex _ rfl
theorem dw_or (ha : PT X a (tT c G t1)) (hb : PW X (.BoolOp .Or (b :: rest) pos) (tT c G t2)) : PW X (.BoolOp .Or (a :: b :: rest) pos) (tT c G (dOr t1 t2)) := pw_imp (pw_or ha hb) fun σ H Q ⟨S0, H0, S, r, ok, p⟩ =>
  rd_seq ok p fun x v S1 H1 w1 o1 m1 p1 => by
    rw [show v = x from m1]
    cases x with
    | true => exact p1.go o1.ex _ rfl
    | false => exact ⟨S0, H0, S1, r, o1, p1⟩
theorem dt_not (ha : PT X a (tT c G t1)) : PT X (.UnaryOp .Not a pos) (tT c G (dNot t1)) := pt_imp (pt_not ha) fun σ H Q ⟨S0, H0, S, r, ok, p⟩ =>
  rd_seq ok p fun x v S1 H1 w1 o1 m1 p1 => by
    rw [show v = x from m1]
    exact p1.go o1.ex _ rfl
/-- and, or, not as values: all True or False -/
def dAndV (f g : Rho → Res D) : Rho → Res D := fun r => (f r).bind fun x => (asB x).bind fun b => if b = true then g r else .ok (.bl false)
def dOrV (f g : Rho → Res D) : Rho → Res D := fun r => (f r).bind fun x => (asB x).bind fun b => if b = true then .ok (.bl true) else g r
def dNotV (f : Rho → Res D) : Rho → Res D := fun r => (f r).bind fun x => (asB x).bind fun b => .ok (.bl (!b))
end
end Dx
end S_DxB
section S_DxC
set_option Elab.async false
set_option linter.all false
set_option maxRecDepth 100000
set_option maxHeartbeats 2000000
namespace Dx
open PySem L2
mutual
def toPy : D → Option PyData
  | .non => some .none
  | .bl b => some (.bool b)
  | .int i => some (.int i)
  | .str s => some (.str s)
  | .lst ds => (toPyL ds).map .list
  | .fz ds => (toPyL ds).map .list
  | .tup ds => (toPyL ds).map .tuple
  | .kt ds => (toPyL ds).map .tuple
  | .dk _ _ => none
  | .dt _ _ => none
  | .dn _ _ => none
  | .obj _ _ _ => none
  | .own _ => none
  | .st _ _ => none
def toPyL : List D → Option (List PyData)
  | [] => some []
  | d :: ds => match toPy d, toPyL ds with
    | some p, some ps => some (p :: ps)
    | _, _ => none
end
section
variable {K : PySem.W.Frag} {cm : CM} {S H : Hp}
mutual
theorem Rp.dp (e : Ex S H) : ∀ {v : V} {d : D} {p : PyData}, Rp K cm S v d → toPy d = some p → Dp K H v p
  | _, .non, _, h, q => by cases h; cases q; exact .non
  | _, .bl _, _, h, q => by cases h; cases q; exact .bl _
  | _, .int _, _, h, q => by cases h; cases q; exact .int _
  | _, .str _, _, h, q => by cases h; cases q; exact .str _
  | _, .lst ds, _, h, q => by
    cases h with | lst a r =>
    rw [toPy] at q
    obtain ⟨ps, h1, rfl⟩ := Option.map_eq_some_iff.mp q
    exact .lst (.inl (.inl (e _ _ a))) (RpA.dp e r h1)
  | _, .fz ds, _, h, q => by
    cases h with | fz a r =>
    rw [toPy] at q
    obtain ⟨ps, h1, rfl⟩ := Option.map_eq_some_iff.mp q
    exact .lst (e.l a) (RpA.dp e r h1)
  | _, .tup ds, _, h, q => by
    cases h with | tup a r =>
    rw [toPy] at q
    obtain ⟨ps, h1, rfl⟩ := Option.map_eq_some_iff.mp q
    exact .tup (.inl (.inl (e _ _ a))) (RpA.dp e r h1)
  | _, .kt ds, _, h, q => by
    cases h with | kt a r =>
    rw [toPy] at q
    obtain ⟨ps, h1, rfl⟩ := Option.map_eq_some_iff.mp q
    exact .tup (e.t a) (RpA.dp e r h1)
  | _, .dk _ _, _, h, q => by cases q
  | _, .dt _ _, _, h, q => by cases q
  | _, .dn _ _, _, h, q => by cases q
  | _, .obj _ _ _, _, h, q => by cases q
theorem RpA.dp (e : Ex S H) : ∀ {vs : List V} {ds : List D} {ps : List PyData}, RpA K cm S vs ds → toPyL ds = some ps → DpAll K H vs ps
  | _, [], _, h, q => by cases h; cases q; exact .nil
  | _, d :: ds, _, h, q => by
    cases h with | cons a r =>
    rw [toPyL] at q
    cases h1 : toPy d with
    | none => rw [h1] at q; cases q
    | some p =>
      cases h2 : toPyL ds with
      | none => rw [h1, h2] at q; cases q
      | some ps =>
        rw [h1, h2] at q
        cases q
        exact .cons (Rp.dp e a h1) (RpA.dp e r h2)
end
theorem RpB.dp {v : V} {d : D} {p : PyData} (e : Ex S H) (h : RpB K cm S H v d) (q : toPy d = some p) : Dp K H v p := by
  rcases h with h | ⟨a, ho, rfl, h2, h3⟩
  · exact h.dp e q
  · cases h3 with
    | lst r =>
      rw [toPy] at q
      obtain ⟨ps, h1, rfl⟩ := Option.map_eq_some_iff.mp q
      exact .lst (.inl (.inl h2)) (r.dp e h1)
    | dk _ _ => cases q
    | dt _ _ => cases q
    | dn _ _ _ => cases q
    | obj _ _ _ => cases q
end
noncomputable def addD : D → D → Res D
  | .int i, .int j => .ok (.int (i + j))
  | .str a, .str b => guard (a.length + b.length ≤ sizeLine) (.ok (.str (a ++ b)))
  | .tup a, .tup b => guard (a.length + b.length ≤ sizeLine) (.ok (.tup (a ++ b)))
  | .lst a, .lst b => guard (a.length + b.length ≤ sizeLine) (.ok (.lst (a ++ b)))
  | _, _ => .bad
def rAddX (K : PySem.W.Frag) : R2 := fun x y H Q => (rI0 (fun i j => .int (i + j))) x y H Q ∨ (∃ i j, x = .str i ∧ y = .str j ∧ i.length + j.length ≤ sizeLine ∧ Q (.str (i ++ j)) H) ∨ rCatA K x y H Q ∨ rCat x y H Q
section
variable {X : Cx} {c : Cf}
theorem or_add : OpR X (binaryOp .Add) (rAddX X.K) := op_add.or (op_add_str.or (op_catA.or op_cat))
theorem PostG.ite {σ : St} {S H : Hp} {α : Type} {p : Prop} [Decidable p] {x : Res α} {k : α → Hp → Hp → Prop} (h : PostG c σ S H (if p then x else .bad) k) : p ∧ PostG c σ S H x k := by
  by_cases hp : p
  · rw [if_pos hp] at h; exact ⟨hp, h⟩
  · rw [if_neg hp] at h; exact h.elim
theorem os_add : OpS c (mV c) (rAddX c.K) addD := by
  intro σ S H x y d e Q ex hx hy p
  unfold addD at p
  split at p
  · cases hx.int; cases hy.int
    exact .inl ⟨_, _, rfl, rfl, p.here ex (.int _)⟩
  · cases hx.str; cases hy.str
    obtain ⟨hl, p⟩ := p.gd
    exact .inr (.inl ⟨_, _, rfl, rfl, hl, p.here ex (.str _)⟩)
  · obtain ⟨q1, xs, rfl, a1, r1, s1⟩ := hx.tup ex
    obtain ⟨q2, ys, rfl, a2, r2, s2⟩ := hy.tup ex
    obtain ⟨hl, p⟩ := p.gd
    refine .inr (.inr (.inl ⟨_, _, xs, ys, rfl, rfl, a1, a2, by rw [r1.length, r2.length]; exact hl, fun h => ?_, fun _ h => ?_, fun _ _ q hq => ?_⟩))
    · subst h; cases r1; exact p.here ex (.tup s2 r2)
    · subst h; cases r2; rw [List.append_nil] at p; exact p.here ex (.tup s1 r1)
    · exact p.laid ex hq (.tup upd_same ((r1.app r2).mono (Ex.new (ex.nn hq))))
  · obtain ⟨q1, xs, rfl, a1, r1⟩ := hx.list ex
    obtain ⟨q2, ys, rfl, a2, r2⟩ := hy.list ex
    obtain ⟨hl, p⟩ := p.gd
    refine .inr (.inr (.inr ⟨_, _, xs, ys, rfl, rfl, a1, a2, by rw [r1.length, r2.length]; exact hl, fun q hq => ?_⟩))
    exact p.laid ex hq (.lst upd_same ((r1.app r2).mono (Ex.new (ex.nn hq))))
  · exact p.elim
/-- list + list, the new list one's own -/
noncomputable def addL : D → D → Res D
  | .lst a, .lst b => guard (a.length + b.length ≤ sizeLine) (.ok (.lst (a ++ b)))
  | _, _ => .bad
def subD : D → D → Res D
  | .int i, .int j => .ok (.int (i - j))
  | _, _ => .bad
theorem os_sub : OpS c (mV c) (rI0 fun i j => .int (i - j)) subD := by
  intro σ S H x y d e Q ex hx hy p
  unfold subD at p
  split at p
  · cases hx.int; cases hy.int
    exact ⟨_, _, rfl, rfl, p.here ex (.int _)⟩
  · exact p.elim
def smallI (i : Int) : Prop := -(2 ^ 64) < i ∧ i < 2 ^ 64
theorem RpA.rep {K : PySem.W.Frag} {cm : CM} {S : Hp} {vs : List V} {ds : List D} (h : RpA K cm S vs ds) : ∀ n : Nat, RpA K cm S (List.replicate n vs).flatten (List.replicate n ds).flatten
  | 0 => .nil
  | n + 1 => by rw [List.replicate_succ, List.replicate_succ, List.flatten_cons, List.flatten_cons]; exact h.app (RpA.rep h n)
noncomputable def mulD : D → D → Res D
  | .int i, .int j => guard (smallI i ∨ smallI j) (.ok (.int (i * j)))
  | .lst a, .int k => guard (0 ≤ k ∧ k < 2 ^ 60 ∧ a.length * k.toNat ≤ sizeLine) (.ok (.lst (List.replicate k.toNat a).flatten))
  | _, _ => .bad
def rMulX : R2 := fun x y H Q => (rI CMul (fun i j => .int (i * j))) x y H Q ∨ rRep x y H Q
theorem or_mul : OpR X (binaryOp .Mult) rMulX := op_mul.or op_rep
theorem os_mul : OpS c (mV c) rMulX mulD := by
  intro σ S H x y d e Q ex hx hy p
  unfold mulD at p
  split at p
  · cases hx.int; cases hy.int
    obtain ⟨hl, p⟩ := p.gd
    exact .inl ⟨_, _, rfl, rfl, hl, p.here ex (.int _)⟩
  · obtain ⟨q1, xs, rfl, a1, r1⟩ := hx.list ex
    cases hy.int
    obtain ⟨⟨h0, h1, h2⟩, p⟩ := p.gd
    refine .inr ⟨_, _, xs, rfl, rfl, a1, by omega, by omega, by rw [r1.length]; exact h2, fun q hq => ?_⟩
    exact p.laid ex hq (.lst upd_same ((r1.rep _).mono (Ex.new (ex.nn hq))))
  · exact p.elim
noncomputable def fdivD : D → D → Res D
  | .int i, .int j => if 0 < j then guard (j < 4611686018427387904) (.ok (.int (i / j))) else guard (j ≠ 0 ∧ j.natAbs < 1073741824) (.ok (.int (i.fdiv j)))
  | _, _ => .bad
def rFdivX : R2 := fun x y H Q => (rI CDivW (fun i j => .int (i / j))) x y H Q ∨ (rI CDivN (fun i j => .int (i.fdiv j))) x y H Q
theorem or_fdiv : OpR X (binaryOp .FloorDiv) rFdivX := op_fdivW.or op_fdivN
theorem os_fdiv : OpS c (mV c) rFdivX fdivD := by
  intro σ S H x y d e Q ex hx hy p
  unfold fdivD at p
  split at p
  · cases hx.int; cases hy.int
    split at p
    · rename_i h
      obtain ⟨h2, p⟩ := p.gd
      exact .inl ⟨_, _, rfl, rfl, wide_div (b := 62) h (by omega) (by decide) (by decide), p.here ex (.int _)⟩
    · obtain ⟨h, p⟩ := p.gd
      exact .inr ⟨_, _, rfl, rfl, h, p.here ex (.int _)⟩
  · exact p.elim
noncomputable def modD : D → D → Res D
  | .int i, .int j => guard (0 < j) (.ok (.int (i % j)))
  | _, _ => .bad
theorem os_mod : OpS c (mV c) (rI (fun _ j => 0 < j) fun i j => .int (i % j)) modD := by
  intro σ S H x y d e Q ex hx hy p
  unfold modD at p
  split at p
  · cases hx.int; cases hy.int
    obtain ⟨h, p⟩ := p.gd
    exact ⟨_, _, rfl, rfl, h, p.here ex (.int _)⟩
  · exact p.elim
def intsD (g : Int → Int → Int) : D → D → Res D
  | .int i, .int j => .ok (.int (g i j))
  | _, _ => .bad
def eqFlat : D → D → Option Bool
  | .int i, .int j => some (decide (i = j))
  | .str a, .str b => some (decide (a = b))
  | .bl a, .bl b => some (decide (a = b))
  | .non, .non => some true
  | .non, .int _ => some false
  | .non, .bl _ => some false
  | .non, .str _ => some false
  | .int _, .non => some false
  | .bl _, .non => some false
  | .str _, .non => some false
  | .int _, .str _ => some false
  | .str _, .int _ => some false
  | .bl _, .str _ => some false
  | .str _, .bl _ => some false
  | _, _ => none
def eqDeep (d e : D) : Res Bool := match toPy d, toPy e with
  | some p, some q => if SeqAt.shaped p = true ∧ SeqAt.shaped q = true then .ok (PyData.eqv p q) else .bad
  | _, _ => .bad
def eqB (d e : D) : Res Bool := match eqFlat d e with
  | some b => .ok b
  | none => eqDeep d e
def eqD (d e : D) : Res D := (eqB d e).bind fun b => .ok (.bl b)
def neD (d e : D) : Res D := (eqB d e).bind fun b => .ok (.bl (!b))
theorem of_eqDeep {σ : St} {S H : Hp} {x y : V} {d e : D} {g : Bool → Res D} {k : D → Hp → Hp → Prop} (ex : Ex S H) (hx : RpB c.K c.cm S H x d) (hy : RpB c.K c.cm S H y e) (p : PostG c σ S H ((eqDeep d e).bind g) k) :
    ∃ u v, Dp c.K H x u ∧ Dp c.K H y v ∧ SeqAt.shaped u = true ∧ SeqAt.shaped v = true ∧ PostG c σ S H (g (PyData.eqv u v)) k := by
  unfold eqDeep at p
  split at p
  · rename_i u v h1 h2
    by_cases hs : SeqAt.shaped u = true ∧ SeqAt.shaped v = true
    · rw [if_pos hs] at p
      exact ⟨u, v, hx.dp ex h1, hy.dp ex h2, hs.1, hs.2, p⟩
    · rw [if_neg hs] at p
      exact p.elim
  · exact p.elim
theorem of_eqFlat {S H : Hp} {x y : V} {d e : D} {b : Bool} (hx : RpB c.K c.cm S H x d) (hy : RpB c.K c.cm S H y e) (h : eqFlat d e = some b) : scal x y = true ∧ decide (x = y) = b := by
  unfold eqFlat at h
  split at h
  · cases hx.int; cases hy.int; cases h; exact ⟨rfl, by simp⟩
  · cases hx.str; cases hy.str; cases h; exact ⟨rfl, by simp⟩
  · cases hx.bl; cases hy.bl; cases h; exact ⟨rfl, by simp⟩
  · cases hx.non; cases hy.non; cases h; exact ⟨rfl, rfl⟩
  · cases hx.non; cases hy.int; cases h; exact ⟨rfl, rfl⟩
  · cases hx.non; cases hy.bl; cases h; exact ⟨rfl, rfl⟩
  · cases hx.non; cases hy.str; cases h; exact ⟨rfl, rfl⟩
  · cases hx.int; cases hy.non; cases h; exact ⟨rfl, rfl⟩
  · cases hx.bl; cases hy.non; cases h; exact ⟨rfl, rfl⟩
  · cases hx.str; cases hy.non; cases h; exact ⟨rfl, rfl⟩
  · cases hx.int; cases hy.str; cases h; exact ⟨rfl, rfl⟩
  · cases hx.str; cases hy.int; cases h; exact ⟨rfl, rfl⟩
  · cases hx.bl; cases hy.str; cases h; exact ⟨rfl, rfl⟩
  · cases hx.str; cases hy.bl; cases h; exact ⟨rfl, rfl⟩
  · cases h
def rEqX (K : PySem.W.Frag) : R2 := fun x y H Q => rEq x y H Q ∨ rEqD K x y H Q
def rNeX (K : PySem.W.Frag) : R2 := fun x y H Q => rNe x y H Q ∨ rNeD K x y H Q
theorem or_eq (hu : X.A.units + 64 < cLine) : OpR X (compareOp .Eq) (rEqX X.K) := op_eq.or (op_eqD hu)
theorem or_ne (hu : X.A.units + 64 < cLine) : OpR X (compareOp .NotEq) (rNeX X.K) := op_ne.or (op_neD hu)
theorem os_eq : OpS c (mV c) (rEqX c.K) eqD := by
  intro σ S H x y d e Q ex hx hy p
  unfold eqD eqB at p
  split at p
  · rename_i b hb
    obtain ⟨h1, h2⟩ := of_eqFlat hx hy hb
    refine .inl ⟨h1, ?_⟩
    rw [h2]; exact p.here ex (.bl _)
  · obtain ⟨u, v, h1, h2, h3, h4, p⟩ := of_eqDeep ex hx hy p
    exact .inr ⟨u, v, h1, h2, h3, h4, p.here ex (.bl _)⟩
theorem os_ne : OpS c (mV c) (rNeX c.K) neD := by
  intro σ S H x y d e Q ex hx hy p
  unfold neD eqB at p
  split at p
  · rename_i b hb
    obtain ⟨h1, h2⟩ := of_eqFlat hx hy hb
    refine .inl ⟨h1, ?_⟩
    rw [h2]; exact p.here ex (.bl _)
  · obtain ⟨u, v, h1, h2, h3, h4, p⟩ := of_eqDeep ex hx hy p
    exact .inr ⟨u, v, h1, h2, h3, h4, p.here ex (.bl _)⟩
/-- by ints, by texts -/
def ordD (g : Int → Int → Bool) (h : Str → Str → Bool) : D → D → Res D
  | .int i, .int j => .ok (.bl (g i j))
  | .str a, .str b => .ok (.bl (h a b))
  | _, _ => .bad
def rOrd (g : Int → Int → Bool) (h : Str → Str → Bool) : R2 := fun x y H Q => (rI0 fun i j => .bl (g i j)) x y H Q ∨ ∃ i j, x = .str i ∧ y = .str j ∧ Q (.bl (h i j)) H
theorem os_ord {g : Int → Int → Bool} {h : Str → Str → Bool} : OpS c (mV c) (rOrd g h) (ordD g h) := by
  intro σ S H x y d e Q ex hx hy p
  unfold ordD at p
  split at p
  · cases hx.int; cases hy.int
    exact .inl ⟨_, _, rfl, rfl, p.here ex (.bl _)⟩
  · cases hx.str; cases hy.str
    exact .inr ⟨_, _, rfl, rfl, p.here ex (.bl _)⟩
  · exact p.elim
abbrev ltD : D → D → Res D := ordD (fun i j => decide (i < j)) fun i j => decide (i.cps.toList < j.cps.toList)
abbrev leD : D → D → Res D := ordD (fun i j => decide (i ≤ j)) fun i j => !decide (j.cps.toList < i.cps.toList)
abbrev gtD : D → D → Res D := ordD (fun i j => decide (j < i)) fun i j => decide (j.cps.toList < i.cps.toList)
abbrev geD : D → D → Res D := ordD (fun i j => decide (j ≤ i)) fun i j => !decide (i.cps.toList < j.cps.toList)
theorem or_lt : OpR X (compareOp .Lt) (rOrd (fun i j => decide (i < j)) fun i j => decide (i.cps.toList < j.cps.toList)) := op_lt.or op_lt_str
theorem or_gt : OpR X (compareOp .Gt) (rOrd (fun i j => decide (j < i)) fun i j => decide (j.cps.toList < i.cps.toList)) := op_gt.or op_gt_str
/-- is None, is not None -/
def isN : D → Bool
  | .non => true
  | _ => false
def isD (neg : Bool) (d e : D) : Res D := if isN e = true then .ok (.bl (if neg then !isN d else isN d)) else .bad
theorem RpB.isN {K : PySem.W.Frag} {cm : CM} {S H : Hp} {v : V} {d : D} (h : RpB K cm S H v d) : decide (v = .non) = isN d := by
  rcases h with h | ⟨p, ho, rfl, h2, h3⟩
  · cases h <;> rfl
  · cases h3 <;> rfl
theorem os_is : OpS c (mV c) (fun x y H Q => y = .non ∧ Q (.bl (decide (x = .non))) H) (isD false) := by
  intro σ S H x y d e Q ex hx hy p
  obtain ⟨h, p⟩ := p.ite
  rw [hx.isN]
  refine ⟨of_decide_eq_true (hy.isN.trans h), p.here ex (.bl _)⟩
/-- x in: a list of data, a text in a text, a flat thing in a tuple of flat things -/
def flatD : D → Option V
  | .non => some .non
  | .bl b => some (.bl b)
  | .int i => some (.int i)
  | .str s => some (.str s)
  | _ => none
def flatDs : List D → Option (List V)
  | [] => some []
  | d :: ds => match flatD d, flatDs ds with
    | some v, some vs => some (v :: vs)
    | _, _ => none
def inDeep (d : D) (ds : List D) : Res Bool := match toPy d, toPyL ds with
  | some p, some ps => if SeqAt.shaped p = true ∧ SeqAt.shaped (.list ps) = true then .ok (ps.any fun z => PyData.eqv z p) else .bad
  | _, _ => .bad
def inFlat (d : D) (ds : List D) : Option Bool := match flatD d, flatDs ds with
  | some v, some vs => some (inV v vs)
  | _, _ => none
def inLst (d : D) (ds : List D) : Res Bool := match inFlat d ds with
  | some b => .ok b
  | none => inDeep d ds
def inTup (d : D) (ds : List D) : Res Bool := match inFlat d ds with
  | some b => .ok b
  | none => .bad
def inStr (a b : Str) : Bool := match a.cps.toList with
  | [n] => decide (n ∈ b.cps.toList)
  | _ => !(Builtin.Str.occurrences b a 0 b.length 1).isEmpty
def inB : D → D → Res Bool
  | d, .lst ds => inLst d ds
  | d, .fz ds => inLst d ds
  | d, .tup ds => inTup d ds
  | .str a, .str b => .ok (inStr a b)
  | _, _ => .bad
def inD (d e : D) : Res D := (inB d e).bind fun b => .ok (.bl b)
def ninD (d e : D) : Res D := (inB d e).bind fun b => .ok (.bl (!b))
theorem RpB.flat {K : PySem.W.Frag} {cm : CM} {S H : Hp} {v u : V} {d : D} (h : RpB K cm S H v d) (q : flatD d = some u) : v = u ∧ flatV u = true := by
  rcases h with h | ⟨p, ho, rfl, h2, h3⟩
  · cases h <;> first | (cases q; exact ⟨rfl, rfl⟩) | cases q
  · cases h3 <;> cases q
theorem RpA.flat {K : PySem.W.Frag} {cm : CM} {S : Hp} : ∀ {vs us : List V} {ds : List D}, RpA K cm S vs ds → flatDs ds = some us → vs = us ∧ us.all flatV = true
  | _, _, [], h, q => by cases h; cases q; exact ⟨rfl, rfl⟩
  | _, _, d :: ds, h, q => by
    cases h with | cons a r =>
    rw [flatDs] at q
    cases h1 : flatD d with
    | none => rw [h1] at q; cases q
    | some u =>
      cases h2 : flatDs ds with
      | none => rw [h1, h2] at q; cases q
      | some us =>
        rw [h1, h2] at q
        cases q
        obtain ⟨rfl, z1⟩ := RpB.flat (H := S) (.inl a) h1
        obtain ⟨rfl, z2⟩ := RpA.flat r h2
        exact ⟨rfl, by simp [z1, z2]⟩
def rInX (K : PySem.W.Frag) (neg : Bool) : R2 := fun x y H Q => (∃ d ds, Dp K H x d ∧ Dp K H y (.list ds) ∧ SeqAt.shaped d = true ∧ SeqAt.shaped (.list ds) = true ∧ Q (.bl (if neg then !ds.any fun z => PyData.eqv z d else ds.any fun z => PyData.eqv z d)) H) ∨
  rIn K neg x y H Q ∨ (∃ i j, x = .str i ∧ y = .str j ∧ Q (.bl (if neg then !(!(Builtin.Str.occurrences j i 0 j.length 1).isEmpty) else !(Builtin.Str.occurrences j i 0 j.length 1).isEmpty)) H) ∨
  ∃ (n : Nat) (z : Str), x = .str ⟨#[n]⟩ ∧ y = .str z ∧ Q (.bl (if neg then !decide (n ∈ z.cps.toList) else decide (n ∈ z.cps.toList))) H
theorem or_in (hu : X.A.units + 65 < cLine) : OpR X (compareOp .In) (rInX X.K false) := (op_inD hu).or (op_in_seq.or (op_in_str.or op_in_sign))
theorem of_inFlat {S H : Hp} {x : V} {d : D} {xs : List V} {ds : List D} {b : Bool} (hx : RpB c.K c.cm S H x d) (r1 : RpA c.K c.cm S xs ds) (h : inFlat d ds = some b) : flatV x = true ∧ xs.all flatV = true ∧ inV x xs = b := by
  unfold inFlat at h
  split at h
  · rename_i v vs h1 h2
    obtain ⟨rfl, z1⟩ := hx.flat h1
    obtain ⟨rfl, z2⟩ := r1.flat h2
    cases h
    exact ⟨z1, z2, rfl⟩
  · cases h
theorem of_inLst {σ : St} {S H : Hp} {x y : V} {d : D} {ds : List D} {neg : Bool} {Q : VK} {q : Addr} {xs : List V} (ex : Ex S H) (hx : RpB c.K c.cm S H x d) (hy : y = .ref q) (a1 : SqL c.K H q xs) (r1 : RpA c.K c.cm S xs ds) (hd : ∀ ps, toPyL ds = some ps → Dp c.K H y (.list ps))
    (p : PostG c σ S H ((inLst d ds).bind fun b => .ok (.bl (if neg then !b else b))) fun a S' H' => ∀ b, mV c H S' H' b a → Q b H') : rInX c.K neg x y H Q := by
  unfold inLst at p
  split at p
  · rename_i b hb
    obtain ⟨z1, z2, z3⟩ := of_inFlat hx r1 hb
    refine .inr (.inl ⟨q, xs, hy, .inl a1, z1, z2, ?_⟩)
    rw [z3]; exact p.here ex (.bl _)
  · unfold inDeep at p
    split at p
    · rename_i p' ps h1 h2
      by_cases hs : SeqAt.shaped p' = true ∧ SeqAt.shaped (.list ps) = true
      · rw [if_pos hs] at p
        exact .inl ⟨p', ps, hx.dp ex h1, hd ps h2, hs.1, hs.2, p.here ex (.bl _)⟩
      · rw [if_neg hs] at p; exact p.elim
    · exact p.elim
theorem of_inB {σ : St} {S H : Hp} {x y : V} {d e : D} {neg : Bool} {Q : VK} (ex : Ex S H) (hx : RpB c.K c.cm S H x d) (hy : RpB c.K c.cm S H y e)
    (p : PostG c σ S H ((inB d e).bind fun b => .ok (.bl (if neg then !b else b))) fun a S' H' => ∀ b, mV c H S' H' b a → Q b H') : rInX c.K neg x y H Q := by
  unfold inB at p
  split at p
  · obtain ⟨q, xs, hq, a1, r1⟩ := hy.list ex
    exact of_inLst ex hx hq (.inl (.inl a1)) r1 (fun ps h => hy.dp ex (by rw [toPy, h]; rfl)) p
  · obtain ⟨q, xs, hq, a1, r1⟩ := hy.fz ex
    exact of_inLst ex hx hq a1 r1 (fun ps h => hy.dp ex (by rw [toPy, h]; rfl)) p
  · unfold inTup at p
    split at p
    · rename_i b hb
      obtain ⟨q, xs, rfl, a1, r1, s1⟩ := hy.tup ex
      obtain ⟨z1, z2, z3⟩ := of_inFlat hx r1 hb
      refine .inr (.inl ⟨q, xs, rfl, .inr a1, z1, z2, ?_⟩)
      rw [z3]; exact p.here ex (.bl _)
    · exact p.elim
  · rename_i a b
    cases hx.str; cases hy.str
    unfold inStr at p
    split at p
    · rename_i n hn
      have ha : a = ⟨#[n]⟩ := Str.ext' (Array.toList_inj.mp (by rw [hn]))
      exact .inr (.inr (.inr ⟨n, b, by rw [ha], rfl, p.here ex (.bl _)⟩))
    · exact .inr (.inr (.inl ⟨_, _, rfl, rfl, p.here ex (.bl _)⟩))
  · exact p.elim
theorem os_in : OpS c (mV c) (rInX c.K false) inD := fun σ S H x y d e Q ex hx hy p => of_inB (neg := false) ex hx hy p
end
end Dx
end S_DxC
section S_DxD
set_option Elab.async false
set_option linter.all false
set_option maxRecDepth 100000
set_option maxHeartbeats 2000000
namespace Dx
open PySem L2
section
variable {X : Cx} {c : Cf} {G : List Ow} {f f1 f2 f3 : Rho → Res D} {a b e : Expr} {es : List Expr} {pos p : Pos} {fs : Rho → Res (List D)}
def dChain (g g' : D → D → Res D) (f1 f2 f3 : Rho → Res D) : Rho → Res D := fun r => (f1 r).bind fun x => (f2 r).bind fun y => (g x y).bind fun z => (asB z).bind fun k => if k = true then (f3 r).bind fun w => g' y w else .ok (.bl false)
def negD : D → Res D
  | .int i => .ok (.int (-i))
  | _ => .bad
def dUn (g : D → Res D) (f : Rho → Res D) : Rho → Res D := fun r => (f r).bind g
theorem de_neg (ha : PE X a (tV c G f)) : PE X (.UnaryOp .USub a pos) (tV c G (dUn negD f)) := pe_imp (pe_un un_neg ha) fun σ H Q ⟨S0, H0, S, r, ok, p⟩ => rd_seq ok p fun d v S1 H1 w1 o1 m1 p1 => by
  cases d with
  | int i => cases m1; exact ⟨i, rfl, p1.go o1.ex _ (.int _)⟩
  | _ => exact p1.elim
theorem de_one {op : BoolOp} (h : PE X a (tV c G f)) : PE X (.BoolOp op [a] pos) (tV c G f) := pe_one h
theorem de_and {rest : List Expr} (ha : PE X a (tV c G f1)) (hb : PE X (.BoolOp .And (b :: rest) pos) (tV c G f2)) : PE X (.BoolOp .And (a :: b :: rest) pos) (tV c G (dAndV f1 f2)) := pe_imp (pe_and ha hb) fun σ H Q ⟨S0, H0, S, r, ok, p⟩ =>
  rd_seq ok p fun d v S1 H1 w1 o1 m1 p1 => by
    obtain ⟨k, rfl, q1⟩ := of_asB (p1.unbind)
    cases m1
    refine ⟨k, rfl, ?_⟩
    have p2 := q1.go o1.ex
    cases k with
    | true => exact ⟨S0, H0, S1, r, o1, p2⟩
    | false => exact p2.go o1.ex _ (.bl _)
theorem de_or {rest : List Expr} (ha : PE X a (tV c G f1)) (hb : PE X (.BoolOp .Or (b :: rest) pos) (tV c G f2)) : PE X (.BoolOp .Or (a :: b :: rest) pos) (tV c G (dOrV f1 f2)) := pe_imp (pe_or ha hb) fun σ H Q ⟨S0, H0, S, r, ok, p⟩ =>
  rd_seq ok p fun d v S1 H1 w1 o1 m1 p1 => by
    obtain ⟨k, rfl, q1⟩ := of_asB (p1.unbind)
    cases m1
    refine ⟨k, rfl, ?_⟩
    have p2 := q1.go o1.ex
    cases k with
    | true => exact p2.go o1.ex _ (.bl _)
    | false => exact ⟨S0, H0, S1, r, o1, p2⟩
theorem de_not (ha : PE X a (tV c G f)) : PE X (.UnaryOp .Not a pos) (tV c G (dNotV f)) := pe_imp (pe_not ha) fun σ H Q ⟨S0, H0, S, r, ok, p⟩ =>
  rd_seq ok p fun d v S1 H1 w1 o1 m1 p1 => by
    obtain ⟨k, rfl, q1⟩ := of_asB (p1.unbind)
    cases m1
    exact ⟨k, rfl, (q1.go o1.ex).go o1.ex _ (.bl _)⟩
def dNil : Rho → Res (List D) := fun _ => .ok []
def dCons (f : Rho → Res D) (g : Rho → Res (List D)) : Rho → Res (List D) := fun r => (f r).bind fun x => (g r).bind fun xs => .ok (x :: xs)
/-- with a mode for each: true, a thing that is only read -/
def RpM (c : Cf) (S H : Hp) : List Bool → List V → List D → Prop
  | [], [], [] => True
  | true :: ms, v :: vs, d :: ds => RpB c.K c.cm S H v d ∧ RpM c S H ms vs ds
  | false :: ms, v :: vs, d :: ds => Rp c.K c.cm S v d ∧ RpM c S H ms vs ds
  | _, _, _ => False
theorem RpM.mono {S H S' H' : Hp} (e : Ex S S') (e' : Ex H H') : ∀ {ms : List Bool} {vs : List V} {ds : List D}, RpM c S H ms vs ds → RpM c S' H' ms vs ds
  | [], [], [], _ => trivial
  | true :: ms, v :: vs, d :: ds, h => ⟨h.1.mono e e', RpM.mono e e' h.2⟩
  | false :: ms, v :: vs, d :: ds, h => ⟨h.1.mono e, RpM.mono e e' h.2⟩
  | [], _ :: _, _, h => h.elim
  | [], [], _ :: _, h => h.elim
  | true :: _, [], _, h => h.elim
  | true :: _, _ :: _, [], h => h.elim
  | false :: _, [], _, h => h.elim
  | false :: _, _ :: _, [], h => h.elim
def mM (c : Cf) (ms : List Bool) : Md (List V) (List D) := fun _ S' H' vs ds => RpM c S' H' ms vs ds
instance {ms : List Bool} : Anti (mM c ms) := ⟨fun _ h => h⟩
abbrev tM (c : Cf) (G : List Ow) (ms : List Bool) (f : Rho → Res (List D)) : TA := rd c G f (mM c ms)
theorem dm_nil : PA X [] (tM c G [] dNil) := pa_imp pa_nil fun σ H Q ⟨S0, H0, S, r, ok, p⟩ => p.go ok.ex _ trivial
theorem dm_bor {ms : List Bool} (ha : PE X e (tR c G f)) (hr : PA X es (tM c G ms fs)) (hs : starEach (e :: es) X.env = (false, eval e X.env) :: starEach es X.env := by rfl) : PA X (e :: es) (tM c G (true :: ms) (dCons f fs)) :=
  pa_imp (pa_cons ha hr hs) fun σ H Q ⟨S0, H0, S, r, ok, p⟩ => rd_seq ok p fun x v S1 H1 w1 o1 m1 p1 => rd_seq o1 p1 fun xs vs S2 H2 w2 o2 m2 p2 => p2.go o2.ex _ ⟨RpB.mono m1 w2.s w2.h, m2⟩
theorem dm_val {ms : List Bool} (ha : PE X e (tV c G f)) (hr : PA X es (tM c G ms fs)) (hs : starEach (e :: es) X.env = (false, eval e X.env) :: starEach es X.env := by rfl) : PA X (e :: es) (tM c G (false :: ms) (dCons f fs)) :=
  pa_imp (pa_cons ha hr hs) fun σ H Q ⟨S0, H0, S, r, ok, p⟩ => rd_seq ok p fun x v S1 H1 w1 o1 m1 p1 => rd_seq o1 p1 fun xs vs S2 H2 w2 o2 m2 p2 => p2.go o2.ex _ ⟨Rp.mono w2.s m1, m2⟩
theorem da_nil : PA X [] (tAs c G dNil) := pa_imp pa_nil fun σ H Q ⟨S0, H0, S, r, ok, p⟩ => p.go ok.ex _ .nil
theorem da_cons (ha : PE X e (tV c G f)) (hr : PA X es (tAs c G fs)) (hs : starEach (e :: es) X.env = (false, eval e X.env) :: starEach es X.env := by rfl) : PA X (e :: es) (tAs c G (dCons f fs)) :=
  pa_imp (pa_cons ha hr hs) fun σ H Q ⟨S0, H0, S, r, ok, p⟩ => rd_seq ok p fun x v S1 H1 w1 o1 m1 p1 => rd_seq o1 p1 fun xs vs S2 H2 w2 o2 m2 p2 => p2.go o2.ex _ (.cons (Rp.mono w2.s m1) m2)
noncomputable def mkTup (ds : List D) : Res D := guard (ds.length ≤ sizeLine) (.ok (.tup ds))
noncomputable def mkLst (ds : List D) : Res D := guard (ds.length ≤ sizeLine) (.ok (.lst ds))
noncomputable def dTup (g : Rho → Res (List D)) : Rho → Res D := fun r => (g r).bind mkTup
noncomputable def dLst (g : Rho → Res (List D)) : Rho → Res D := fun r => (g r).bind mkLst
theorem de_tup {k : Nat} (h : PA X es (tAs c G fs)) : PE X (.Tuple es k pos) (tV c G (dTup fs)) := pe_imp (pe_tup h) fun σ H Q ⟨S0, H0, S, r, ok, p⟩ => rd_seq ok p fun ds vs S1 H1 w1 o1 m1 p1 => by
  obtain ⟨hl, p1⟩ := p1.gd
  exact ⟨by rw [RpA.length m1]; exact hl, fun q hq => p1.laid o1.ex hq (.tup upd_same (RpA.mono (Ex.new (o1.ex.nn hq)) m1))⟩
theorem de_lst (h : PA X es (tAs c G fs)) : PE X (.List es pos) (tO c G (dLst fs)) := pe_imp (pe_lst h) fun σ H Q ⟨S0, H0, S, r, ok, p⟩ => rd_seq ok p fun ds vs S1 H1 w1 o1 m1 p1 => by
  obtain ⟨hl, p1⟩ := p1.gd
  exact ⟨by rw [RpA.length m1]; exact hl, fun q hq => (p1.anti w1.h).kept o1.ex hq (.lst m1)⟩
def CallS (c : Cf) (R : Md V D) (r : List V → Hp → VK → Prop) (ms : List Bool) (g : List D → Res D) : Prop := ∀ (σ : St) (S H : Hp) (vs : List V) (ds : List D) (Q : VK), Ex S H → RpM c S H ms vs ds →
  PostG c σ S H (g ds) (fun a S' H' => ∀ b, R H S' H' b a → Q b H') → r vs H Q
def dCall (g : List D → Res D) (fs : Rho → Res (List D)) : Rho → Res D := fun r => (fs r).bind g
theorem de_bltn {R : Md V D} [Anti R] {x : Str} {id : String} {ms : List Bool} {r : List V → Hp → VK → Prop} {g : List D → Res D} (hc : CallR X (.builtin id) r) (hs : CallS c R r ms g) (hg : Gl X x) (hm : X.mg x = none) (hv : bootBuiltins x = some (.builtin id)) (ha : PA X (e :: es) (tM c G ms fs))
    (hn : x ≠ "__name__" := by decide) (hdb : (x == ("__debug__" : Str)) = false := by decide) (he : starEach (e :: es) X.env = (false, eval e X.env) :: starEach es X.env := by rfl) (hpl : (backTo pos (starEach es X.env)).any (·.1) = false := by rfl) :
    PE X (.Call (.Name x p) (e :: es) [] pos) (rd c G (dCall g fs) R) := pe_imp (pe_callB hc hg hm hv ha hn hdb he hpl) fun σ H Q ⟨S0, H0, S, r, ok, p⟩ => rd_seq ok p fun ds vs S1 H1 w1 o1 m1 p1 => hs σ S1 H1 vs ds Q o1.ex m1 (p1.anti w1.h)
theorem de_type {R : Md V D} [Anti R] {x : Str} {T : String} {ms : List Bool} {r : List V → Hp → VK → Prop} {g : List D → Res D} (hc : CallR X (.type T) r) (hs : CallS c R r ms g) (hg : Gl X x) (hm : X.mg x = none) (hv : bootBuiltins x = some (.type T)) (ha : PA X (e :: es) (tM c G ms fs))
    (hn : x ≠ "__name__" := by decide) (hdb : (x == ("__debug__" : Str)) = false := by decide) (he : starEach (e :: es) X.env = (false, eval e X.env) :: starEach es X.env := by rfl) (hpl : (backTo pos (starEach es X.env)).any (·.1) = false := by rfl) :
    PE X (.Call (.Name x p) (e :: es) [] pos) (rd c G (dCall g fs) R) := pe_imp (pe_callTy hc hg hm hv ha hn hdb he hpl) fun σ H Q ⟨S0, H0, S, r, ok, p⟩ => rd_seq ok p fun ds vs S1 H1 w1 o1 m1 p1 => hs σ S1 H1 vs ds Q o1.ex m1 (p1.anti w1.h)
theorem RpM.one {S H : Hp} {vs : List V} {ds : List D} (h : RpM c S H [true] vs ds) : ∃ v d, vs = [v] ∧ ds = [d] ∧ RpB c.K c.cm S H v d := by
  match vs, ds, h with
  | [v], [d], h => exact ⟨v, d, rfl, rfl, h.1⟩
  | _ :: _ :: _, [_], h => exact h.2.elim
  | [_], _ :: _ :: _, h => exact h.2.elim
  | _ :: _ :: _, _ :: _ :: _, h => exact h.2.elim
  | [], _, h => exact h.elim
  | _ :: _, [], h => exact h.elim
theorem RpM.two {S H : Hp} {vs : List V} {ds : List D} (h : RpM c S H [true, true] vs ds) : ∃ v w d e, vs = [v, w] ∧ ds = [d, e] ∧ RpB c.K c.cm S H v d ∧ RpB c.K c.cm S H w e := by
  match vs, ds, h with
  | v :: vs, d :: ds, h =>
    obtain ⟨w, e, rfl, rfl, h2⟩ := RpM.one h.2
    exact ⟨v, w, d, e, rfl, rfl, h.1, h2⟩
  | [], _, h => exact h.elim
  | _ :: _, [], h => exact h.elim
/-- len -/
noncomputable def lenD : D → Res D
  | .str z => guard (z.length ≤ sizeLine) (.ok (.int z.length))
  | .lst ds => .ok (.int ds.length)
  | .fz ds => .ok (.int ds.length)
  | .tup ds => .ok (.int ds.length)
  | .kt ds => .ok (.int ds.length)
  | _ => .bad
def g1 (g : D → Res D) : List D → Res D
  | [d] => g d
  | _ => .bad
def g2 (g : D → D → Res D) : List D → Res D
  | [d, e] => g d e
  | _ => .bad
theorem cs_len : CallS c (mV c) (fun xs H Q => ∃ x n, xs = [x] ∧ LenV c.K x H n ∧ Q (.int n) H) [true] (g1 lenD) := by
  intro σ S H vs ds Q ex m p
  obtain ⟨v, d, rfl, rfl, h⟩ := m.one
  cases d with
  | str z =>
    obtain ⟨hl, p⟩ := p.gd
    cases h.str
    exact ⟨_, _, rfl, ⟨hl, rfl⟩, p.here ex (.int _)⟩
  | lst ds =>
    obtain ⟨q, xs, rfl, a1, r1⟩ := h.list ex
    exact ⟨_, _, rfl, .inl ⟨xs, .inl (.inl a1), r1.length.symm⟩, p.here ex (.int _)⟩
  | fz ds =>
    obtain ⟨q, xs, rfl, a1, r1⟩ := h.fz ex
    exact ⟨_, _, rfl, .inl ⟨xs, a1, r1.length.symm⟩, p.here ex (.int _)⟩
  | tup ds =>
    obtain ⟨q, xs, rfl, a1, r1, s1⟩ := h.tup ex
    exact ⟨_, _, rfl, .inr ⟨xs, a1, r1.length.symm⟩, p.here ex (.int _)⟩
  | kt ds =>
    obtain ⟨q, xs, rfl, a1, r1, s1⟩ := h.kt ex
    exact ⟨_, _, rfl, .inr ⟨xs, a1, r1.length.symm⟩, p.here ex (.int _)⟩
  | _ => exact p.elim
/-- int(..) -/
noncomputable def intD : D → Res D
  | .int i => .ok (.int i)
  | .bl k => .ok (.int (if k then 1 else 0))
  | .str a => match PySem.intText? a with
    | some n => guard (a.length ≤ 640) (.ok (.int n))
    | none => .bad
  | _ => .bad
def rIntX : List V → Hp → VK → Prop := fun xs H Q => ((∃ i, xs = [.int i] ∧ Q (.int i) H) ∨ ∃ k, xs = [.bl k] ∧ Q (.int (if k then 1 else 0)) H) ∨ ∃ a n, xs = [.str a] ∧ PySem.intText? a = some n ∧ a.length ≤ 640 ∧ Q (.int n) H
theorem cr_int : CallR X (.type "int") rIntX := call_int1.or call_int_str
theorem cs_int : CallS c (mV c) rIntX [true] (g1 intD) := by
  intro σ S H vs ds Q ex m p
  obtain ⟨v, d, rfl, rfl, h⟩ := m.one
  cases d with
  | int i => cases h.int; exact .inl (.inl ⟨_, rfl, p.here ex (.int _)⟩)
  | bl k => cases h.bl; exact .inl (.inr ⟨_, rfl, p.here ex (.int _)⟩)
  | str a =>
    cases h.str
    unfold g1 intD at p
    dsimp only at p
    split at p
    · rename_i n hn
      obtain ⟨hl, p⟩ := p.gd
      exact .inr ⟨_, n, rfl, hn, hl, p.here ex (.int _)⟩
    · exact p.elim
  | _ => exact p.elim
def absD : D → Res D
  | .int i => .ok (.int (if i < 0 then -i else i))
  | _ => .bad
theorem cs_ints2 {g : Int → Int → Int} : CallS c (mV c) (fun xs H Q => ∃ i j, xs = [.int i, .int j] ∧ Q (.int (g i j)) H) [true, true] (g2 (intsD g)) := by
  intro σ S H vs ds Q ex m p
  obtain ⟨v, w, d, e, rfl, rfl, h, h'⟩ := m.two
  unfold g2 intsD at p
  dsimp only at p
  split at p
  · cases h.int; cases h'.int; exact ⟨_, _, rfl, p.here ex (.int _)⟩
  · exact p.elim
abbrev max2 (i j : Int) : Int := if j > i then j else i
/-- list(..), tuple(..) -/
def itemsL : D → Res (List D)
  | .lst ds => .ok ds
  | .fz ds => .ok ds
  | _ => .bad
def itemsT : D → Res (List D)
  | .tup ds => .ok ds
  | _ => .bad
def items : D → Res (List D)
  | .lst ds => .ok ds
  | .fz ds => .ok ds
  | .tup ds => .ok ds
  | _ => .bad
def listD (d : D) : Res D := match d with
  | .kt ds => .ok (.lst ds)
  | d => (items d).bind fun ds => .ok (.lst ds)
theorem cs_list : CallS c (mO c) (fun xs H Q => ∃ p ys, xs = [.ref p] ∧ (SqL c.K H p ys ∨ SqT c.K H p ys) ∧ ∀ l, H l = none → Q (.ref l) (upd H l (.lst ys))) [true] (g1 listD) := by
  intro σ S H vs ds Q ex m p
  obtain ⟨v, d, rfl, rfl, h⟩ := m.one
  cases d with
  | lst ds =>
    obtain ⟨q, xs, rfl, a1, r1⟩ := h.list ex
    exact ⟨q, xs, rfl, .inl (.inl (.inl a1)), fun l hl => p.kept ex hl (.lst r1)⟩
  | fz ds =>
    obtain ⟨q, xs, rfl, a1, r1⟩ := h.fz ex
    exact ⟨q, xs, rfl, .inl a1, fun l hl => p.kept ex hl (.lst r1)⟩
  | tup ds =>
    obtain ⟨q, xs, rfl, a1, r1, s1⟩ := h.tup ex
    exact ⟨q, xs, rfl, .inr a1, fun l hl => p.kept ex hl (.lst r1)⟩
  | kt ds =>
    obtain ⟨q, xs, rfl, a1, r1, s1⟩ := h.kt ex
    exact ⟨q, xs, rfl, .inr a1, fun l hl => p.kept ex hl (.lst r1)⟩
  | _ => exact p.elim
def tupleD (d : D) : Res D := (items d).bind fun ds => .ok (.tup ds)
theorem cs_tuple : CallS c (mV c) (fun xs H Q => ∃ p ys, xs = [.ref p] ∧ ((SqL c.K H p ys ∧ ∀ l, H l = none → Q (.ref l) (upd H l (.tup ys))) ∨ (SqT c.K H p ys ∧ Q (.ref p) H))) [true] (g1 tupleD) := by
  intro σ S H vs ds Q ex m p
  obtain ⟨v, d, rfl, rfl, h⟩ := m.one
  cases d with
  | lst ds =>
    obtain ⟨q, xs, rfl, a1, r1⟩ := h.list ex
    exact ⟨q, xs, rfl, .inl ⟨.inl (.inl a1), fun l hl => p.laid ex hl (.tup upd_same (r1.mono (Ex.new (ex.nn hl))))⟩⟩
  | fz ds =>
    obtain ⟨q, xs, rfl, a1, r1⟩ := h.fz ex
    exact ⟨q, xs, rfl, .inl ⟨a1, fun l hl => p.laid ex hl (.tup upd_same (r1.mono (Ex.new (ex.nn hl))))⟩⟩
  | tup ds =>
    obtain ⟨q, xs, rfl, a1, r1, s1⟩ := h.tup ex
    exact ⟨q, xs, rfl, .inr ⟨a1, p.here ex (.tup s1 r1)⟩⟩
  | _ => exact p.elim
/-- str(n), str(text) is not here: see part T -/
noncomputable def strD : D → Res D
  | .int i => guard (i.natAbs.log2 < 1920) (.ok (.str (toString i)))
  | _ => .bad
def tyN : D → Option String
  | .non => some "NoneType"
  | .bl _ => some "bool"
  | .int _ => some "int"
  | .str _ => some "str"
  | .lst _ => some "list"
  | .fz _ => some "list"
  | .tup _ => some "tuple"
  | .kt _ => some "tuple"
  | .dk _ _ => some "dict"
  | .dt _ _ => none
  | .dn _ _ => none
  | .obj _ _ _ => none
  | .own _ => none
  | .st _ _ => none
def isiD (T : String) (d : D) : Res D := match tyN d with
  | some n => match kitB n T with
    | some b => .ok (.bl b)
    | none => .bad
  | none => .bad
theorem RpB.ty {K : PySem.W.Frag} {cm : CM} {S H : Hp} {v : V} {d : D} {n : String} (h : RpB K cm S H v d) (ex : Ex S H) (q : tyN d = some n) : TyX K H v (.type n) := by
  cases d with
  | non => cases h.non; cases q; exact .base .non
  | bl b => cases h.bl; cases q; exact .base (.bl b)
  | int i => cases h.int; cases q; exact .base (.int i)
  | str s => cases h.str; cases q; exact .base (.str s)
  | lst ds => obtain ⟨p, xs, rfl, a, r⟩ := h.list ex; cases q; exact .base (.lst a)
  | fz ds =>
    obtain ⟨p, xs, rfl, a, r⟩ := h.fz ex; cases q
    rcases a with (a | ⟨o, a⟩) | ⟨o, its, m, a1, a2, _⟩
    · exact .base (.lst a)
    · exact .base (.frz a)
    · exact .kList a1 a2
  | tup ds =>
    obtain ⟨p, xs, rfl, a, r, s⟩ := h.tup ex; cases q
    rcases a with (a | ⟨o, a⟩) | ⟨o, its, m, a1, a2, _⟩
    · exact .base (.tup a)
    · exact .fTuple a
    · exact .kTuple a1 a2
  | dk ks vs =>
    obtain ⟨p, xs, rfl, a, r⟩ := h.dk ex; cases q
    rcases a with a | ⟨o, a⟩
    · exact .base (.dK a)
    · exact .fDict a
  | dt ks vs => cases q
  | dn ks vs => cases q
  | kt ds =>
    obtain ⟨p, xs, rfl, a, r, s⟩ := h.kt ex; cases q
    rcases a with (a | ⟨o, a⟩) | ⟨o, its, m, a1, a2, _⟩
    · exact .base (.tup a)
    · exact .fTuple a
    · exact .kTuple a1 a2
  | obj n ns vs => cases q
  | own k => cases q
  | st k M => cases q
/-- the class's name is a built-in's that stands as it was -/
theorem de_isi {x : Str} {pT : Pos} (T : String) (hm : X.mg "isinstance" = none) (hg : Gl X "isinstance") (gT : Gl X x) (mT : X.mg x = none) (bT : bootBuiltins x = some (.type T)) (ha : PE X e (tR c G f)) (hK : c.K = X.K := by rfl)
    (hn : x ≠ "__name__" := by decide) (hd : (x == ("__debug__" : Str)) = false := by decide)
    (hs1 : starEach [e, .Name x pT] X.env = (false, eval e X.env) :: starEach [.Name x pT] X.env := by rfl) (hs2 : starEach [.Name x pT] X.env = (false, eval (.Name x pT) X.env) :: starEach [] X.env := by rfl) (hpl : (backTo pos (starEach [.Name x pT] X.env)).any (·.1) = false := by rfl) :
    PE X (.Call (.Name "isinstance" p) [e, .Name x pT] [] pos) (tV c G (dUn (isiD T) f)) := by
  have hT : PE X (.Name x pT) (tC (.ty T)) := pe_bltn gT mT bT rfl hn hd
  refine pe_imp (pe_callB call_isi hg hm (by decide +kernel) (pa_cons ha (pa_cons hT pa_nil hs2) hs1) (he := hs1) (hpl := hpl)) fun σ H Q ⟨S0, H0, S, r, ok, p⟩ => rd_seq ok p fun d v S1 H1 w1 o1 m1 p1 => ?_
  unfold isiD at p1
  split at p1
  · rename_i n hn
    split at p1
    · rename_i b hb
      exact ⟨v, .ty T, .type n, .type T, b, rfl, .ty T, by rw [← hK]; exact RpB.ty m1 o1.ex hn, kit_ty hb, p1.go o1.ex _ (.bl _)⟩
    · exact p1.elim
  · exact p1.elim
noncomputable def ixD : D → D → Res D
  | .lst ds, .int i => match atI ds i with
    | some d => .ok d
    | none => .bad
  | .fz ds, .int i => match atI ds i with
    | some d => .ok d
    | none => .bad
  | .tup ds, .int i => match atI ds i with
    | some d => .ok d
    | none => .bad
  | .kt ds, .int i => match atI ds i with
    | some d => .ok d
    | none => .bad
  | .str z, .int i => guard (z.length ≤ sizeLine) (match atI z.cps.toList i with
    | some n => .ok (.str ⟨#[n]⟩)
    | none => .bad)
  | _, _ => .bad
theorem RpA.atI {K : PySem.W.Frag} {cm : CM} {S : Hp} {xs : List V} {ds : List D} {i : Int} {d : D} (h : RpA K cm S xs ds) (q : atI ds i = some d) : ∃ v, L2.atI xs i = some v ∧ Rp K cm S v d := by
  unfold L2.atI at q ⊢
  rw [h.length]
  cases hj : ixN ds.length i with
  | none => rw [hj] at q; cases q
  | some j => rw [hj] at q; exact h.get q
theorem os_ix : OpS c (mV c) (rIx c.K) ixD := by
  intro σ S H x y d e Q ex hx hy p
  unfold ixD at p
  split at p
  · split at p
    · rename_i hd
      obtain ⟨q, xs, rfl, a1, r1⟩ := hx.list ex
      cases hy.int
      obtain ⟨v, h1, h2⟩ := r1.atI hd
      exact .inl ⟨q, xs, _, v, rfl, rfl, .inl (.inl a1), h1, p.here ex h2⟩
    · exact p.elim
  · split at p
    · rename_i hd
      obtain ⟨q, xs, rfl, a1, r1⟩ := hx.fz ex
      cases hy.int
      obtain ⟨v, h1, h2⟩ := r1.atI hd
      exact .inl ⟨q, xs, _, v, rfl, rfl, a1, h1, p.here ex h2⟩
    · exact p.elim
  · split at p
    · rename_i hd
      obtain ⟨q, xs, rfl, a1, r1, s1⟩ := hx.tup ex
      cases hy.int
      obtain ⟨v, h1, h2⟩ := r1.atI hd
      exact .inr (.inl ⟨q, xs, _, v, rfl, rfl, a1, h1, p.here ex h2⟩)
    · exact p.elim
  · split at p
    · rename_i hd
      obtain ⟨q, xs, rfl, a1, r1, s1⟩ := hx.kt ex
      cases hy.int
      obtain ⟨v, h1, h2⟩ := r1.atI hd
      exact .inr (.inl ⟨q, xs, _, v, rfl, rfl, a1, h1, p.here ex h2⟩)
    · exact p.elim
  · obtain ⟨hl, p⟩ := p.gd
    cases hx.str; cases hy.int
    split at p
    · rename_i hd
      exact .inr (.inr ⟨_, _, _, rfl, rfl, hl, hd, p.here ex (.str _)⟩)
    · exact p.elim
  · exact p.elim
theorem de_ix (ha : PE X a (tR c G f1)) (hb : PE X b (tR c G f2)) (hs : PlainIx b) (hK : c.K = X.K := by rfl) : PE X (.Subscript a b pos) (tV c G (dOp ixD f1 f2)) :=
  pe_imp (pe_ix ix_seq ha hb hs) (by rw [← hK]; exact op_rd os_ix)
def cutL {α : Type} (xs : List α) (lo hi : Option Int) : List α := (xs.drop (HT.sIx xs.length 0 lo)).take (HT.sIx xs.length xs.length hi - HT.sIx xs.length 0 lo)
def asI : D → Res Int
  | .int i => .ok i
  | _ => .bad
def dNoP : Rho → Res (Option Int) := fun _ => .ok none
def dPart (f : Rho → Res D) : Rho → Res (Option Int) := fun r => (f r).bind fun d => (asI d).bind fun i => .ok (some i)
theorem po_imp {oe : Option Expr} {t t' : TO} (h : PO X oe t) (k : ∀ σ H Q, t' σ H Q → t σ H Q) : PO X oe t' := ⟨fun pins s σ H Q I q => h.run pins s σ H Q I (k σ H Q q)⟩
abbrev tP (c : Cf) (G : List Ow) (f : Rho → Res (Option Int)) : TO := rd c G f (mE (Option Int))
theorem dp_none : PO X none (tP c G dNoP) := po_imp po_none fun σ H Q ⟨S0, H0, S, r, ok, p⟩ => p.go ok.ex _ rfl
theorem of_asI {σ : St} {S H : Hp} {d : D} {k : Int → Hp → Hp → Prop} (p : PostG c σ S H (asI d) k) : ∃ i, d = .int i ∧ PostG c σ S H (.ok i) k := by
  cases d with
  | int i => exact ⟨i, rfl, p⟩
  | _ => exact p.elim
theorem dp_some (h : PE X e (tV c G f)) : PO X (some e) (tP c G (dPart f)) := po_imp (po_some h) fun σ H Q ⟨S0, H0, S, r, ok, p⟩ => rd_seq ok p fun d v S1 H1 w1 o1 m1 p1 => by
  obtain ⟨i, rfl, q1⟩ := of_asI p1.unbind
  cases m1
  exact ⟨i, rfl, (q1.go o1.ex).go o1.ex _ rfl⟩
variable {fl fh : Rho → Res (Option Int)} {lo hi : Option Expr} {p2 : Pos}
noncomputable def slD (d : D) (lo hi : Option Int) : Res D := match d with
  | .lst ds => .ok (.lst (cutL ds lo hi))
  | .fz ds => .ok (.lst (cutL ds lo hi))
  | .tup ds => .ok (.tup (cutL ds lo hi))
  | .str z => guard (z.length ≤ sizeLine) (.ok (.str (cutS z lo hi)))
  | _ => .bad
def dSl (g : D → Option Int → Option Int → Res D) (f : Rho → Res D) (fl fh : Rho → Res (Option Int)) : Rho → Res D := fun r => (f r).bind fun d => (fl r).bind fun l => (fh r).bind fun h => g d l h
def rSlX (K : PySem.W.Frag) : V → Option Int → Option Int → Hp → VK → Prop := fun x lo hi H Q => rSlL K x lo hi H Q ∨ rSlA K x lo hi H Q ∨ rSlS x lo hi H Q
theorem sl_x : SlR X (rSlX X.K) := sl_list.or (sl_tupA.or sl_str)
theorem RpA.cut {K : PySem.W.Frag} {cm : CM} {S : Hp} {xs : List V} {ds : List D} {lo hi : Option Int} (h : RpA K cm S xs ds) : RpA K cm S (cutV xs lo hi) (cutL ds lo hi) := by
  unfold cutV cutL
  rw [h.length]
  exact (h.drop _).take _
theorem cutV_whole {xs : List V} {lo hi : Option Int} (h : HT.sIx xs.length 0 lo = 0 ∧ HT.sIx xs.length xs.length hi = xs.length) : cutV xs lo hi = xs := by
  unfold cutV
  rw [h.1, h.2]
  simp
theorem de_sl (ha : PE X a (tR c G f)) (hl : PO X lo (tP c G fl)) (hh : PO X hi (tP c G fh)) (hK : c.K = X.K := by rfl) : PE X (.Subscript a (.Slice lo hi none p2) pos) (tV c G (dSl slD f fl fh)) :=
  pe_imp (pe_slice sl_x ha hl hh) fun σ H Q ⟨S0, H0, S, r, ok, p⟩ => rd_seq ok p fun d v S1 H1 w1 o1 m1 p1 => rd_seq o1 p1 fun l l' S2 H2 w2 o2 m2 p2 => rd_seq o2 p2 fun h h' S3 H3 w3 o3 m3 p3 => by
    have m1 := RpB.mono m1 (w2.s.trans w3.s) (w2.h.trans w3.h)
    rw [show l' = l from m2, show h' = h from m3, ← hK]
    cases d with
    | lst ds =>
      obtain ⟨q, xs, rfl, a1, r1⟩ := m1.list o3.ex
      exact .inl ⟨q, xs, rfl, .inl (.inl a1), fun q hq => PostG.laid p3 o3.ex hq (.lst upd_same (r1.cut.mono (Ex.new (o3.ex.nn hq))))⟩
    | fz ds =>
      obtain ⟨q, xs, rfl, a1, r1⟩ := m1.fz o3.ex
      exact .inl ⟨q, xs, rfl, a1, fun q hq => PostG.laid p3 o3.ex hq (.lst upd_same (r1.cut.mono (Ex.new (o3.ex.nn hq))))⟩
    | tup ds =>
      obtain ⟨q, xs, rfl, a1, r1, s1⟩ := m1.tup o3.ex
      refine .inr (.inl ⟨q, xs, rfl, a1, fun hw => p3.go o3.ex _ (.tup s1 ?_), fun _ q hq => PostG.laid p3 o3.ex hq (.tup upd_same (r1.cut.mono (Ex.new (o3.ex.nn hq))))⟩)
      have := r1.cut (lo := l) (hi := h)
      rw [cutV_whole hw] at this
      exact this
    | str z =>
      obtain ⟨hl, p3⟩ := p3.gd
      cases m1.str
      exact .inr (.inr ⟨z, rfl, hl, p3.go o3.ex _ (.str _)⟩)
    | _ => exact p3.elim
/-- a slice of a list, the new list one's own -/
def slL (d : D) (lo hi : Option Int) : Res D := match d with
  | .lst ds => .ok (.lst (cutL ds lo hi))
  | .fz ds => .ok (.lst (cutL ds lo hi))
  | _ => .bad
end
end Dx
end S_DxD
section S_DxE
set_option Elab.async false
set_option linter.all false
set_option maxRecDepth 100000
set_option maxHeartbeats 2000000
namespace Dx
open PySem L2
/-- what is wanted behind a statement -/
def PostS (c : Cf) (S0 H0 : Hp) (L G' : List Ow) (o : SR) (E : Ends) : Prop :=
  match o with
  | .nx r => ∀ σ' S' H', EnvOk c S0 H0 G' S' H' σ' r → E.nx σ' H'
  | .rt d => if c.rm then ∀ p ho S' H', Fwd S0 H0 S' H' → H0 p = none → S' p = none → H' p = some ho → RpO c.K c.cm S' ho d → E.rt (.ref p) H'
      else ∀ v S' H', Fwd S0 H0 S' H' → Rp c.K c.cm S' v d → E.rt v H'
  | .bk r => ∀ σ' S' H', EnvOk c S0 H0 L S' H' σ' r → E.bk σ' H'
  | .ct r => ∀ σ' S' H', EnvOk c S0 H0 L S' H' σ' r → E.ct σ' H'
  | .er r n ns vs => ∀ C dd σ' S' H' fs, c.cm n = some C → Fwd S0 H0 S' H' → (∀ g, c.ge = some g → EnvOk c S0 H0 g S' H' σ' r) → S' dd = some (.xd fs) → ns = fs.map (·.1) → RpA c.K c.cm S' (fs.map (·.2)) vs → c.W (.ref C) (some dd) σ' H'
  | .bad => False
def sD (c : Cf) (L G G' : List Ow) (F : Rho → SR) : TS := fun E σ H => ∃ S0 H0 S r, EnvOk c S0 H0 G S H σ r ∧ PostS c S0 H0 L G' (F r) E
def liftS {α : Type} (r : Rho) (x : Res α) (k : α → SR) : SR := match x with
  | .ok a => k a
  | .err n ns vs => .er r n ns vs
  | .bad => .bad
/-- where a try's clauses ask for the slots, the kinds are the ones told -/
def Gok (c : Cf) (G : List Ow) : Prop := ∀ g, c.ge = some g → g = G
section
variable {X : Cx} {c : Cf} {L G G' G'' : List Ow} {σ : St} {S0 H0 S H : Hp} {r : Rho} {α β : Type} {E : Ends}
theorem st_seq {f : Rho → Res α} {R : Md β α} (hg : Gok c G) (e : EnvOk c S0 H0 G S H σ r) {k : α → SR} (p : PostS c S0 H0 L G' (liftS r (f r) k) E) {Q : β → Hp → Prop}
    (h : ∀ a b S' H', Fwd S H S' H' → EnvOk c S0 H0 G S' H' σ r → R H S' H' b a → PostS c S0 H0 L G' (k a) E → Q b H') : rd c G f R σ H Q := by
  refine ⟨S0, H0, S, r, e, ?_⟩
  cases hf : f r with
  | ok a => rw [hf] at p; exact fun S' H' fw b hb => h a b S' H' fw (e.go fw) hb p
  | err n ns vs =>
    rw [hf] at p
    exact fun C dd S' H' fs h1 fw h2 h3 h4 => p C dd σ S' H' fs h1 (e.fwd.trans fw) (fun g q => by rw [hg g q]; exact e.go fw) h2 h3 h4
  | bad => rw [hf] at p; exact p.elim
/-- the stable part as the new base -/
theorem EnvOk.rebase (e : EnvOk c S0 H0 G S H σ r) : EnvOk c S H0 G S H σ r := ⟨⟨Ex.refl, e.fwd.h, e.fwd.sub, fun a o h n => by rw [n] at h; cases h⟩, e.len, e.slot, e.sep, e.sto⟩
theorem Fwd.unbase {S' H' : Hp} (f : Fwd S0 H0 S H) (g : Fwd S H0 S' H') : Fwd S0 H0 S' H' := ⟨f.s.trans g.s, g.h, g.sub, fun a o h n => by
  cases q : S a with
  | some u => exact f.new a u q n
  | none => exact g.new a o h q⟩
theorem EnvOk.unbase {S' H' : Hp} {σ' : St} {r' : Rho} (f : Fwd S0 H0 S H) (e : EnvOk c S H0 G' S' H' σ' r') : EnvOk c S0 H0 G' S' H' σ' r' := ⟨f.unbase e.fwd, e.len, e.slot, e.sep, e.sto⟩
theorem PostS.rebase {o : SR} (f : Fwd S0 H0 S H) (p : PostS c S0 H0 L G' o E) : PostS c S H0 L G' o E := by
  cases o with
  | nx r => exact fun σ' S' H' e => p σ' S' H' (e.unbase f)
  | rt d =>
    unfold PostS at p ⊢
    dsimp only at p ⊢
    split
    · rename_i h
      rw [if_pos h] at p
      exact fun q ho S' H' w => p q ho S' H' (f.unbase w)
    · rename_i h
      rw [if_neg h] at p
      exact fun v S' H' w => p v S' H' (f.unbase w)
  | bk r => exact fun σ' S' H' e => p σ' S' H' (e.unbase f)
  | ct r => exact fun σ' S' H' e => p σ' S' H' (e.unbase f)
  | er r n ns vs => exact fun C dd σ' S' H' fs h1 w h2 => p C dd σ' S' H' fs h1 (f.unbase w) fun g q => (h2 g q).unbase f
  | bad => exact p
def seqF (F K : Rho → SR) : Rho → SR := fun r => match F r with
  | .nx r' => K r'
  | o => o
theorem ds_nil : PSs X [] (sD c L G G .nx) := pss_imp pss_nil fun E σ H ⟨S0, H0, S, r, ok, p⟩ => p σ S H ok
theorem ds_cons {st : Stmt} {rest : List Stmt} {F K : Rho → SR} (h1 : PS X st (sD c L G G' F)) (h2 : PSs X rest (sD c L G' G'' K)) : PSs X (st :: rest) (sD c L G G'' (seqF F K)) := pss_imp (pss_cons h1 h2) fun E σ H ⟨S0, H0, S, r, ok, p⟩ => by
  refine ⟨S0, H0, S, r, ok, ?_⟩
  unfold seqF at p
  cases hF : F r with
  | nx r' => rw [hF] at p; exact fun σ' S' H' e => ⟨S0, H0, S', r', e, p⟩
  | rt d => rw [hF] at p; exact p
  | bk r' => rw [hF] at p; exact p
  | ct r' => rw [hF] at p; exact p
  | er r' n ns vs => rw [hF] at p; exact p
  | bad => rw [hF] at p; exact p.elim
theorem ds_one {st : Stmt} {F : Rho → SR} (h1 : PS X st (sD c L G G' F)) : PSs X [st] (sD c L G G' F) := pss_one h1
/-- an own object becomes a value, ahead of a block; behind one -/
theorem EnvOk.pubL (e : EnvOk c S0 H0 G S H σ r) (i : Nat) (hk : kd G i = .o ∨ kd G i = .v) : Lo (fun H => ∃ S', EnvOk c S0 H0 (G.set i .v) S' H σ r) H := by
  by_cases h : kd G i = .o ∧ ∃ d, r[i]? = some (some d) ∧ isDct d = true
  · obtain ⟨k, d, h1, h2⟩ := h
    exact .inr (e.pubD i k h1 h2)
  · by_cases k : kd G i = .o
    · exact .inl (e.pub i hk fun d hd => by
        cases q : isDct d with
        | false => rfl
        | true => exact (h ⟨k, d, hd, q⟩).elim)
    · have k' : kd G i = .v := hk.resolve_left k
      have all : ∀ j, kd (G.set i .v) j = kd G j := fun j => by
        by_cases ne : i = j
        · subst ne; rw [kd_set_self, k']
        · exact kd_set_ne ne
      exact .inl ⟨S, e.fwd, e.len, fun j b hb => by rw [all]; exact e.slot j b hb, fun j l b b' q hj hk kj kk sj sk => e.sep j l b b' q hj hk ((all j) ▸ kj) ((all l) ▸ kk) sj sk, e.sto_un i hk⟩
theorem Lo.imp {Q R : Hp → Prop} {H : Hp} (h : Lo Q H) (k : ∀ H, Q H → R H) : Lo R H := by
  rcases h with h | ⟨p, u, h1, h2, h⟩
  · exact .inl (k _ h)
  · exact .inr ⟨p, u, h1, h2, fun w => k _ (h w)⟩
theorem ds_pub {sts : List Stmt} {F : Rho → SR} (i : Nat) (h : PSs X sts (sD c L (G.set i .v) G' F)) (hk : kd G i = .o ∨ kd G i = .v) : PSs X sts (sD c L G G' F) := pss_lock h fun E σ H ⟨S0, H0, S, r, ok, p⟩ =>
  (ok.pubL i hk).imp fun H' ⟨S', ok'⟩ => ⟨S0, H0, S', r, ok', p⟩
theorem ds_pubE {sts : List Stmt} {F : Rho → SR} (i : Nat) (h : PSs X sts (sD c L G G' F)) (hk : kd G' i = .o ∨ kd G' i = .v) : PSs X sts (sD c L G (G'.set i .v) F) := pss_lockE h fun E σ H ⟨S0, H0, S, r, ok, p⟩ => by
  refine ⟨S0, H0, S, r, ok, ?_⟩
  cases hF : F r with
  | nx r' =>
    rw [hF] at p
    exact fun σ' S' H' e => (e.pubL i hk).imp fun H'' ⟨S'', e'⟩ => p σ' S'' H'' e'
  | rt d => rw [hF] at p; exact p
  | bk r' => rw [hF] at p; exact p
  | ct r' => rw [hF] at p; exact p
  | er r' n ns vs => rw [hF] at p; exact p
  | bad => rw [hF] at p; exact p.elim
variable {e : Expr} {pos : Pos} {f : Rho → Res D}
def setF (i : Nat) (f : Rho → Res D) : Rho → SR := fun r => liftS r (f r) fun d => .nx (r.set i (some d))
/-- x = e -/
theorem ds_set (i : Nat) {x : Str} {pos' : Pos} (hg : Gok c G) (hN : X.N.Nodup) (hi : X.N[i]? = some x) (hx : Loc X.env.scope x) (he : PE X e (tV c G f)) (hs : swapsWith e (some (.Name x pos')) pos.line X.env = pure false := by rfl)
    (hf : X.fn x = true ∨ X.env.scope.names.lookup x = some .local := by first | exact .inl rfl | exact .inr rfl | assumption) : PS X (.Assign [.Name x pos'] e pos) (sD c L G (G.set i .v) (setF i f)) :=
  ps_imp (ps_set hN hi hx he hs hf) fun E σ H ⟨S0, H0, S, r, ok, p⟩ => st_seq hg ok p fun d v S1 H1 w1 o1 m1 p1 => p1 _ S1 H1 (o1.setV i m1)
/-- x = e, a new object of one's own -/
theorem ds_setO (i : Nat) {x : Str} {pos' : Pos} (hg : Gok c G) (hG : i < G.length) (hN : X.N.Nodup) (hi : X.N[i]? = some x) (hx : Loc X.env.scope x) (he : PE X e (tO c G f)) (hs : swapsWith e (some (.Name x pos')) pos.line X.env = pure false := by rfl)
    (hf : X.fn x = true ∨ X.env.scope.names.lookup x = some .local := by first | exact .inl rfl | exact .inr rfl | assumption) : PS X (.Assign [.Name x pos'] e pos) (sD c L G (G.set i .o) (setF i f)) :=
  ps_imp (ps_set hN hi hx he hs hf) fun E σ H ⟨S0, H0, S, r, ok, p⟩ => st_seq hg ok p fun d v S1 H1 w1 o1 m1 p1 => by
    obtain ⟨q, ho, rfl, n, ns, hp, h⟩ := m1
    exact p1 _ S1 H1 (ok.setO w1 i hG n ns hp h)
def retF (f : Rho → Res D) : Rho → SR := fun r => liftS r (f r) .rt
theorem ds_ret (hg : Gok c G) (hr : c.rm = false) (he : PE X e (tV c G f)) : PS X (.Return (some e) pos) (sD c L G G' (retF f)) := ps_imp (ps_ret he) fun E σ H ⟨S0, H0, S, r, ok, p⟩ => st_seq hg ok p fun d v S1 H1 w1 o1 m1 p1 => by
  unfold PostS at p1
  rw [hr] at p1
  exact p1 v S1 H1 o1.fwd m1
def dropF {α : Type} (f : Rho → Res α) : Rho → SR := fun r => liftS r (f r) fun _ => .nx r
theorem ds_expr {R : Md V D} (hg : Gok c G) (he : PE X e (rd c G f R)) (hs : swapsWith e none pos.line X.env = pure false := by rfl) : PS X (.Expr e pos) (sD c L G G (dropF f)) := ps_imp (ps_expr he hs) fun E σ H ⟨S0, H0, S, r, ok, p⟩ =>
  st_seq hg ok p fun d v S1 H1 w1 o1 m1 p1 => p1 σ S1 H1 o1
def ifF (t : Rho → Res Bool) (F K : Rho → SR) : Rho → SR := fun r => liftS r (t r) fun b => if b = true then F r else K r
theorem ds_if {cnd : Expr} {sa sb : List Stmt} {t : Rho → Res Bool} {F K : Rho → SR} (hg : Gok c G) (hc : PT X cnd (tT c G t)) (ha : PSs X sa (sD c L G G' F)) (hb : PSs X sb (sD c L G G' K)) : PS X (.If cnd sa sb pos) (sD c L G G' (ifF t F K)) :=
  ps_imp (ps_if hc ha hb) fun E σ H ⟨S0, H0, S, r, ok, p⟩ => st_seq hg ok p fun x v S1 H1 w1 o1 m1 p1 => by
    rw [show v = x from m1]
    cases x with
    | true => exact ⟨S0, H0, S1, r, o1, p1⟩
    | false => exact ⟨S0, H0, S1, r, o1, p1⟩
variable {a b : Expr} {f1 f2 : Rho → Res D} {apos cpos p' : Pos}
/-- the own list in slot i -/
def ownL (i : Nat) (r : Rho) : Res (List D) := match r[i]? with
  | some (some (.lst ds)) => .ok ds
  | _ => .bad
theorem of_ownL {i : Nat} {k : List D → SR} (e : EnvOk c S0 H0 G S H σ r) (kd' : kd G i = .o) (p : PostS c S0 H0 L G' (liftS r (ownL i r) k) E) :
    ∃ q xs ds, r[i]? = some (some (.lst ds)) ∧ σ[i]? = some (some (.ref q)) ∧ H q = some (.lst xs) ∧ RpA c.K c.cm S xs ds ∧ PostS c S0 H0 L G' (k ds) E := by
  unfold ownL at p
  split at p
  · rename_i ds hd
    obtain ⟨q, ho, s1, s2, s3, s4, s5⟩ := e.own kd' hd
    cases s5 with
    | lst r1 => exact ⟨q, _, ds, hd, s1, s2, r1, p⟩
  · exact p.elim
noncomputable def guardS (p : Prop) (x : SR) : SR := @ite _ p (Classical.propDecidable p) x .bad
theorem guardS_pos {p : Prop} {x : SR} (h : p) : guardS p x = x := by unfold guardS; exact if_pos h
noncomputable def appF (i : Nat) (f : Rho → Res D) : Rho → SR := fun r => liftS r (ownL i r) fun ds => liftS r (f r) fun d => guardS (ds.length < sizeLine) (.nx (r.set i (some (.lst (ds ++ [d])))))
theorem PostS.ite {p : Prop} [Decidable p] {x : SR} (h : PostS c S0 H0 L G' (if p then x else .bad) E) : p ∧ PostS c S0 H0 L G' x E := by
  by_cases hp : p
  · rw [if_pos hp] at h; exact ⟨hp, h⟩
  · rw [if_neg hp] at h; exact h.elim
theorem PostS.gd {p : Prop} {x : SR} (h : PostS c S0 H0 L G' (guardS p x) E) : p ∧ PostS c S0 H0 L G' x E := by
  by_cases hp : p
  · rw [guardS_pos hp] at h; exact ⟨hp, h⟩
  · unfold guardS at h; rw [if_neg hp] at h; exact h.elim
theorem pe_app {o : Expr} {to te : TE} (ho : PE X o to) (he : PE X e te) (hbase : attributeBase o "append" X.env (eval o X.env) = eval o X.env := by rfl)
    (hfew : ((backTo cpos (starEach [e] X.env)).all (fun x => !x.1) && (backToKw cpos (keywordEach [] X.env)).all (fun x => x.1.isSome) && decide ([e].length + ([] : List Keyword).length + (if ([] : List Keyword).isEmpty then 0 else 1) < 30)) = true := by rfl)
    (hline : (apos.endLine == cpos.line) = true := by rfl) (hs : starEach [e] X.env = (false, eval e X.env) :: starEach [] X.env := by rfl) :
    PE X (.Call (.Attribute o "append" apos) [e] [] cpos) (tBM X.K "list" rAppend to (tCons te tNil)) :=
  pe_bm PySem.F.plainAttrs_list PySem.F.slot_list_append PySem.F.type_list_append mt_append ho (pa_cons he pa_nil hs) hbase hfew hline hs rfl
theorem ds_app (i : Nat) {x : Str} {pn : Pos} (hg : Gok c G) (k : kd G i = .o) (ho : PE X (.Name x pn) (tVar i)) (he : PE X e (tV c G f)) (hw : swapsWith (.Call (.Attribute (.Name x pn) "append" apos) [e] [] cpos) none pos.line X.env = pure false := by rfl)
    (hbase : attributeBase (.Name x pn) "append" X.env (eval (.Name x pn) X.env) = eval (.Name x pn) X.env := by rfl)
    (hfew : ((backTo cpos (starEach [e] X.env)).all (fun x => !x.1) && (backToKw cpos (keywordEach [] X.env)).all (fun x => x.1.isSome) && decide ([e].length + ([] : List Keyword).length + (if ([] : List Keyword).isEmpty then 0 else 1) < 30)) = true := by rfl)
    (hline : (apos.endLine == cpos.line) = true := by rfl) (hs : starEach [e] X.env = (false, eval e X.env) :: starEach [] X.env := by rfl) :
    PS X (.Expr (.Call (.Attribute (.Name x pn) "append" apos) [e] [] cpos) pos) (sD c L G G (appF i f)) :=
  ps_imp (ps_expr (pe_app ho he hbase hfew hline hs) hw) fun E σ H ⟨S0, H0, S, r, ok, p⟩ => by
    obtain ⟨q, xs, ds, hd, z1, z2, z3, p1⟩ := of_ownL ok k p
    refine ⟨.ref q, z1, .inl ⟨rfl, xs, .inl (.inl z2)⟩, st_seq hg ok p1 fun d v S1 H1 w1 o1 m1 p2 => ?_⟩
    obtain ⟨hl, p2⟩ := p2.gd
    exact ⟨q, xs, v, rfl, rfl, w1.h _ _ z2, by rw [z3.length]; exact hl, p2 σ S1 _ (o1.mut k hd z1 (.lst ((z3.mono w1.s).app (.one m1))))⟩
/-- x[i] = e, x an own list -/
def stoF (i : Nat) (fi f : Rho → Res D) : Rho → SR := fun r => liftS r (f r) fun d => liftS r (ownL i r) fun ds => liftS r (fi r) fun k => liftS r (asI k) fun k => match ixN ds.length k with
  | some j => .nx (r.set i (some (.lst (ds.set j d))))
  | none => .bad
theorem ds_sto (i : Nat) {x : Str} {pn : Pos} {ix : Expr} {fi : Rho → Res D} (hg : Gok c G) (k : kd G i = .o) (ho : PE X (.Name x pn) (tVar i)) (hi : PE X ix (tV c G fi)) (he : PE X e (tV c G f))
    (ha : ∀ v, assign (.Subscript (.Name x pn) ix p') X.env v = (do
      let ov ← holding [v] (eval (.Name x pn) X.env)
      let iv ← holding [v, ov] (eval ix X.env)
      standAt p'
      holding [v, ov, iv] (setItem ov iv v)
      release [v, ov, iv] []) := by intro _; rfl)
    (hs : swapsWithSole [.Subscript (.Name x pn) ix p'] e pos.line X.env = pure false := by rfl) (hw : swappedStores [.Subscript (.Name x pn) ix p'] e X.env = pure none := by rfl)
    (h1 : (assignEach [.Subscript (.Name x pn) ix p'] X.env).map (·.2) = [assign (.Subscript (.Name x pn) ix p') X.env] := by rfl) :
    PS X (.Assign [.Subscript (.Name x pn) ix p'] e pos) (sD c L G G (stoF i fi f)) :=
  ps_imp (ps_asg he (pg_sub ho hi set_list ha) hs hw h1) fun E σ H ⟨S0, H0, S, r, ok, p⟩ => st_seq hg ok p fun d v S1 H1 w1 o1 m1 p1 => by
    obtain ⟨q, xs, ds, hd, z1, z2, z3, p2⟩ := of_ownL o1 k p1
    refine ⟨.ref q, z1, st_seq hg o1 p2 fun kk u S2 H2 w2 o2 m2 p3 => ?_⟩
    cases kk with
    | int j =>
      cases m2
      dsimp only [asI, liftS] at p3
      split at p3
      · rename_i n hn
        refine ⟨q, xs, j, n, rfl, rfl, w2.h _ _ z2, by rw [z3.length]; exact hn, p3 σ S2 _ (o2.mut k hd z1 (.lst (RpA.set (Rp.mono w2.s m1) n (z3.mono w2.s))))⟩
      · exact p3.elim
    | _ => exact p3.elim
/-- what is wanted behind a target -/
def PostR (c : Cf) (S0 H0 S H : Hp) (G' : List Ow) (σ : St) (ks : List Nat) (x : Res Rho) (Q : St → Hp → Prop) : Prop := match x with
  | .ok r' => ∀ σ', wipe σ' ks = wipe σ ks → EnvOk c S0 H0 G' S H σ' r' → Q σ' H
  | _ => False
theorem wipe_get (σ : St) : ∀ (vs : List Nat) (i : Nat), (wipe σ vs)[i]? = if i ∈ vs then σ[i]?.map (fun _ => none) else σ[i]?
  | [], i => by simp [wipe]
  | v :: vs, i => by
    show ((wipe σ vs).set v none)[i]? = _
    by_cases h : v = i
    · subst h
      rw [List.getElem?_set, if_pos rfl, wipe_length, if_pos (List.mem_cons_self)]
      split
      · rename_i hl; simp [List.getElem?_eq_getElem hl]
      · rename_i hl; rw [List.getElem?_eq_none (by omega)]; rfl
    · rw [List.getElem?_set_ne h, wipe_get σ vs i]
      have : (i ∈ v :: vs) ↔ i ∈ vs := by simp [List.mem_cons, Ne.symm h]
      simp only [this]
theorem wipe_set {σ : St} {i : Nat} {x : Option V} : wipe (σ.set i x) [i] = wipe σ [i] := by
  show (σ.set i x).set i none = σ.set i none
  exact List.set_set _
theorem wipe_len {σ σ' : St} {ks : List Nat} (h : wipe σ' ks = wipe σ ks) : σ'.length = σ.length := by
  have := congrArg List.length h
  rw [wipe_length, wipe_length] at this
  exact this
theorem wipe_get_eq {σ σ' : St} {ks : List Nat} (h : wipe σ' ks = wipe σ ks) {i : Nat} (hi : i ∉ ks) : σ'[i]? = σ[i]? := by
  have := congrArg (fun l : St => l[i]?) h
  simp only [wipe_get, if_neg hi] at this
  exact this
theorem wipe_app {σ σ1 σ2 : St} {k1 k2 : List Nat} (h1 : wipe σ1 k1 = wipe σ k1) (h2 : wipe σ2 k2 = wipe σ1 k2) : wipe σ2 (k1 ++ k2) = wipe σ (k1 ++ k2) := by
  have l1 := wipe_len h1
  have l2 := wipe_len h2
  apply List.ext_getElem?
  intro i
  rw [wipe_get, wipe_get]
  by_cases hi : i ∈ k1 ++ k2
  · rw [if_pos hi, if_pos hi]
    by_cases hl : i < σ.length
    · rw [List.getElem?_eq_getElem hl, List.getElem?_eq_getElem (show i < σ2.length by omega)]; rfl
    · rw [List.getElem?_eq_none (by omega), List.getElem?_eq_none (by omega)]
  · rw [if_neg hi, if_neg hi]
    have a1 : i ∉ k1 := fun z => hi (List.mem_append_left _ z)
    have a2 : i ∉ k2 := fun z => hi (List.mem_append_right _ z)
    rw [wipe_get_eq h2 a2, wipe_get_eq h1 a1]
/-- a target by data -/
def gD (c : Cf) (G G' : List Ow) (ks : List Nat) (t : D → Rho → Res Rho) : TG := fun v σ H Q => ∃ S0 H0 S r d, EnvOk c S0 H0 G S H σ r ∧ Rp c.K c.cm S v d ∧ PostR c S0 H0 S H G' σ ks (t d r) Q
theorem pg_imp {tg : Expr} {t t' : TG} (h : PG X tg t) (k : ∀ v σ H Q, t' v σ H Q → t v σ H Q) : PG X tg t' := ⟨fun pins s σ H v u Q I r q => h.run pins s σ H v u Q I r (k v σ H Q q)⟩
theorem pgs_imp {tg : List Expr} {t t' : TGs} (h : PGs X tg t) (k : ∀ v σ H Q, t' v σ H Q → t v σ H Q) : PGs X tg t' := ⟨fun pins s σ H v u Q I r q => h.run pins s σ H v u Q I r (k v σ H Q q)⟩
def tgN (i : Nat) : D → Rho → Res Rho := fun d r => .ok (r.set i (some d))
theorem dg_name (i : Nat) {x : Str} (hN : X.N.Nodup) (hi : X.N[i]? = some x) (hx : Loc X.env.scope x) (hf : X.fn x = true ∨ X.env.scope.names.lookup x = some .local := by first | exact .inl rfl | exact .inr rfl | assumption) :
    PG X (.Name x pos) (gD c G (G.set i .v) [i] (tgN i)) := pg_imp (pg_name hN hi hx hf) fun v σ H Q ⟨S0, H0, S, r, d, ok, hv, p⟩ => p _ wipe_set (ok.setV i hv)
def gDs (c : Cf) (G G' : List Ow) (ks : List Nat) (t : List D → Rho → Res Rho) : TGs := fun vs σ H Q => ∃ S0 H0 S r ds, EnvOk c S0 H0 G S H σ r ∧ RpA c.K c.cm S vs ds ∧ PostR c S0 H0 S H G' σ ks (t ds r) Q
def tgNil : List D → Rho → Res Rho
  | [], r => .ok r
  | _ :: _, _ => .bad
def tgCons (t : D → Rho → Res Rho) (u : List D → Rho → Res Rho) : List D → Rho → Res Rho
  | [], _ => .bad
  | d :: ds, r => (t d r).bind (u ds)
theorem dg_nil : PGs X [] (gDs c G G [] tgNil) := pgs_imp pgs_nil fun vs σ H Q ⟨S0, H0, S, r, ds, ok, hv, p⟩ => by
  cases hv with
  | nil => exact ⟨rfl, p σ rfl ok⟩
  | cons _ _ => exact p.elim
theorem dg_cons {es : List Expr} {t : D → Rho → Res Rho} {u : List D → Rho → Res Rho} {k1 k2 : List Nat} (h1 : PG X e (gD c G G' k1 t)) (h2 : PGs X es (gDs c G' G'' k2 u)) (hs : (assignEach (e :: es) X.env).map (·.2) = assign e X.env :: (assignEach es X.env).map (·.2) := by rfl) :
    PGs X (e :: es) (gDs c G G'' (k1 ++ k2) (tgCons t u)) := pgs_imp (pgs_cons h1 h2 hs) fun vs σ H Q ⟨S0, H0, S, r, ds, ok, hv, p⟩ => by
  cases hv with
  | nil => exact p.elim
  | @cons v vs d ds hv hr =>
    refine ⟨v, vs, rfl, S0, H0, S, r, d, ok, hv, ?_⟩
    have p : PostR c S0 H0 S H G'' σ (k1 ++ k2) ((t d r).bind (u ds)) Q := p
    cases ht : t d r with
    | ok r1 =>
      rw [ht] at p
      intro σ1 z1 ok1
      refine ⟨S0, H0, S, r1, ds, ok1, hr, ?_⟩
      have p : PostR c S0 H0 S H G'' σ (k1 ++ k2) (u ds r1) Q := p
      cases hu : u ds r1 with
      | ok r2 => rw [hu] at p; exact fun σ2 z2 ok2 => p σ2 (wipe_app z1 z2) ok2
      | err _ _ _ => rw [hu] at p; exact p.elim
      | bad => rw [hu] at p; exact p.elim
    | err _ _ _ => rw [ht] at p; exact p.elim
    | bad => rw [ht] at p; exact p.elim
def tgT (n : Nat) (u : List D → Rho → Res Rho) : D → Rho → Res Rho := fun d r => match d with
  | .tup ds => if ds.length = n then u ds r else .bad
  | .kt ds => if ds.length = n then u ds r else .bad
  | _ => .bad
theorem dg_tup {es : List Expr} {k n : Nat} {ks : List Nat} {u : List D → Rho → Res Rho} (hc : X.calm = true) (h : PGs X es (gDs c G G' ks u)) (hn : (assignEach es X.env).length = n := by rfl) (hst : (assignEach es X.env).findIdx? (·.1) = none := by rfl) (hK : c.K = X.K := by rfl) :
    PG X (.Tuple es k pos) (gD c G G' ks (tgT n u)) := pg_imp (pg_tup hc h hn hst) fun v σ H Q ⟨S0, H0, S, r, d, ok, hv, p⟩ => by
  unfold tgT at p
  cases hv with
  | @kt a xs ds q rr =>
    dsimp only at p
    by_cases hl : ds.length = n
    · rw [if_pos hl] at p
      exact ⟨a, xs, rfl, by rw [← hK]; exact ok.ex.t q, by rw [rr.length]; exact hl, S0, H0, S, r, ds, ok, rr, p⟩
    · rw [if_neg hl] at p; exact p.elim
  | @tup a xs ds q rr =>
    dsimp only at p
    by_cases hl : ds.length = n
    · rw [if_pos hl] at p
      exact ⟨a, xs, rfl, by rw [← hK]; exact .inl (.inl (ok.ex _ _ q)), by rw [rr.length]; exact hl, S0, H0, S, r, ds, ok, rr, p⟩
    · rw [if_neg hl] at p; exact p.elim
  | _ => exact p.elim
def asgF (t : D → Rho → Res Rho) (f : Rho → Res D) : Rho → SR := fun r => liftS r (f r) fun d => match t d r with
  | .ok r' => .nx r'
  | _ => .bad
/-- target = e -/
theorem ds_asg {tg : Expr} {ks : List Nat} {t : D → Rho → Res Rho} (hg : Gok c G) (he : PE X e (tV c G f)) (ht : PG X tg (gD c G G' ks t)) (hs : swapsWithSole [tg] e pos.line X.env = pure false := by rfl) (hw : swappedStores [tg] e X.env = pure none := by rfl)
    (h1 : (assignEach [tg] X.env).map (·.2) = [assign tg X.env] := by rfl) : PS X (.Assign [tg] e pos) (sD c L G G' (asgF t f)) := ps_imp (ps_asg he ht hs hw h1) fun E σ H ⟨S0, H0, S, r, ok, p⟩ => st_seq hg ok p fun d v S1 H1 w1 o1 m1 p1 => by
  refine ⟨S0, H0, S1, r, d, o1, m1, ?_⟩
  cases ht : t d r with
  | ok r' => rw [ht] at p1; exact fun σ' _ ok' => p1 σ' S1 H1 ok'
  | err _ _ _ => rw [ht] at p1; exact p1.elim
  | bad => rw [ht] at p1; exact p1.elim
/-- x, y = a, b -/
def parF (i j : Nat) (f1 f2 : Rho → Res D) : Rho → SR := fun r => liftS r (dCons f1 (dCons f2 dNil) r) fun ds => match ds with
  | [d, e] => .nx ((r.set i (some d)).set j (some e))
  | _ => .bad
theorem ds_par (i j : Nat) {x y : Str} {px py pt pt2 : Pos} {kt k2 : Nat} (hg : Gok c G) (hc : X.calm = true) (hN : X.N.Nodup) (hi : X.N[i]? = some x) (hj : X.N[j]? = some y) (hij : i ≠ j)
    (hx : X.env.scope.names.lookup x = some .local) (hy : X.env.scope.names.lookup y = some .local) (ha : PE X a (tV c G f1)) (hb : PE X b (tV c G f2))
    (hw : swappedStores [.Tuple [.Name x px, .Name y py] kt pt] (.Tuple [a, b] k2 pt2) X.env = pure (some [x, y]))
    (hs : swapsWithSole [.Tuple [.Name x px, .Name y py] kt pt] (.Tuple [a, b] k2 pt2) pos.line X.env = pure false := by rfl)
    (hs1 : starEach [a, b] X.env = (false, eval a X.env) :: starEach [b] X.env := by rfl) (hs2 : starEach [b] X.env = (false, eval b X.env) :: starEach [] X.env := by rfl) :
    PS X (.Assign [.Tuple [.Name x px, .Name y py] kt pt] (.Tuple [a, b] k2 pt2) pos) (sD c L G ((G.set i .v).set j .v) (parF i j f1 f2)) :=
  ps_imp (ps_par hc hN hi hj hij hx hy (da_cons ha (da_cons hb da_nil hs2) hs1) hw hs) fun E σ H ⟨S0, H0, S, r, ok, p⟩ => st_seq hg ok p fun ds vs S1 H1 w1 o1 m1 p1 => by
    match ds, m1, p1 with
    | [d, e], .cons hd (.cons he .nil), p1 => exact ⟨_, _, rfl, p1 _ S1 H1 ((o1.setV i hd).setV j he)⟩
    | [], _, p1 => exact p1.elim
    | [_], _, p1 => exact p1.elim
    | _ :: _ :: _ :: _, _, p1 => exact p1.elim
def YOk (c : Cf) (S' : Hp) (ds : List D) (Y : Nat → Hp → V → Hp → Prop) : Prop := ∀ i S1 H1 x H2, i < ds.length → Ex S' S1 → Ex S1 H1 → Y i H1 x H2 → ∃ S2 d, Fwd S1 H1 S2 H2 ∧ ds[i]? = some d ∧ Rp c.K c.cm S2 x d
/-- the iterator J gives the data ds -/
def Gives (c : Cf) (H0 S' : Hp) (J : It) (ds : List D) : Prop := ∃ Gd Y, Walk J ds.length Gd Y ∧ (∀ S'' H'', Ex S' S'' → Ex S'' H'' → Ex H0 H'' → Gd H'') ∧ YOk c S' ds Y
def iD (c : Cf) (G : List Ow) (f : Rho → Res (List D)) : TI := fun σ H R => ∃ S0 H0 S r, EnvOk c S0 H0 G S H σ r ∧ PostG c σ S H (f r) fun ds S' H' => ∀ J, Gives c H0 S' J ds → R J H'
theorem pi_imp {tg it : Expr} {t t' : TI} (h : PI X tg it t) (k : ∀ σ H R, t' σ H R → t σ H R) : PI X tg it t' := ⟨fun pins s σ H R I q => h.run pins s σ H R I (k σ H R q)⟩
def dIt (g : D → Res (List D)) (f : Rho → Res D) : Rho → Res (List D) := fun r => (f r).bind g
theorem gives_list {c : Cf} {H0 S : Hp} {q : Addr} {xs : List V} {ds : List D} (h : SqL c.K S q xs) (rr : RpA c.K c.cm S xs ds) : Gives c H0 S (Itl c.K q) ds := by
  refine ⟨_, _, by rw [← rr.length]; exact walk_list (K := c.K) (a := q) (xs := xs), fun S'' H'' e1 e2 _ => e2.l (e1.l h), fun i S1 H1 x H2 hi e1 e2 y => ?_⟩
  obtain ⟨rfl, hx⟩ := y
  obtain ⟨d, h1, h2⟩ := rr.getV hx
  exact ⟨S1, d, Fwd.refl e2, h1, h2.mono e1⟩
theorem gives_tup {c : Cf} {H0 S : Hp} {q : Addr} {xs : List V} {ds : List D} (h : SqT c.K S q xs) (rr : RpA c.K c.cm S xs ds) : Gives c H0 S (Itt c.K q) ds := by
  refine ⟨_, _, by rw [← rr.length]; exact walk_tup (K := c.K) (a := q) (xs := xs), fun S'' H'' e1 e2 _ => e2.t (e1.t h), fun i S1 H1 x H2 hi e1 e2 y => ?_⟩
  obtain ⟨rfl, hx⟩ := y
  obtain ⟨d, h1, h2⟩ := rr.getV hx
  exact ⟨S1, d, Fwd.refl e2, h1, h2.mono e1⟩
variable {tg : Expr}
theorem di_list (he : PE X e (tV c G f)) (hK : c.K = X.K := by rfl) : PI X tg e (iD c G (dIt itemsL f)) := pi_imp (pi_list he) fun σ H R ⟨S0, H0, S, r, ok, p⟩ => rd_seq ok p fun d v S1 H1 w1 o1 m1 p1 => by
  rw [← hK]
  cases d with
  | lst ds =>
    cases m1 with | @lst q xs _ h rr =>
    exact ⟨q, rfl, ⟨xs, .inl (.inl (o1.ex _ _ h))⟩, p1.go o1.ex _ (gives_list (.inl (.inl h)) rr)⟩
  | fz ds =>
    cases m1 with | @fz q xs _ h rr =>
    exact ⟨q, rfl, ⟨xs, o1.ex.l h⟩, p1.go o1.ex _ (gives_list h rr)⟩
  | _ => exact p1.elim
theorem di_tup (he : PE X e (tV c G f)) (hK : c.K = X.K := by rfl) : PI X tg e (iD c G (dIt itemsT f)) := pi_imp (pi_tup he) fun σ H R ⟨S0, H0, S, r, ok, p⟩ => rd_seq ok p fun d v S1 H1 w1 o1 m1 p1 => by
  rw [← hK]
  cases d with
  | tup ds =>
    cases m1 with | @tup q xs _ h rr =>
    exact ⟨q, rfl, ⟨xs, .inl (.inl (o1.ex _ _ h))⟩, p1.go o1.ex _ (gives_tup (.inl (.inl h)) rr)⟩
  | _ => exact p1.elim
/-- a borrowed list: a parameter's slot -/
theorem di_bor (i : Nat) {x : Str} (he : PE X (.Name x pos) (tVar i)) (k : kd G i = .b) (hK : c.K = X.K := by rfl) : PI X tg (.Name x pos) (iD c G (dIt itemsL (dVar i))) := pi_imp (pi_list he) fun σ H R ⟨S0, H0, S, r, ok, p⟩ => by
  obtain ⟨d, hd, p⟩ := of_dVar (p.unbind)
  obtain ⟨v, h1, h2⟩ := ok.slot i d hd
  rw [k] at h2
  have p1 := p.go ok.ex
  refine ⟨v, h1, ?_⟩
  rw [← hK]
  cases d with
  | lst ds =>
    rcases h2 with h2 | ⟨q, ho, rfl, h3, h4⟩
    · cases h2 with | @lst q xs _ h rr =>
      exact ⟨q, rfl, ⟨xs, .inl (.inl (ok.ex _ _ h))⟩, p1.go ok.ex _ (gives_list (.inl (.inl h)) rr)⟩
    · cases h4 with | @lst xs _ rr =>
      refine ⟨q, rfl, ⟨xs, .inl (.inl (ok.fwd.h _ _ h3))⟩, p1.go ok.ex _ ⟨_, _, by rw [← rr.length]; exact walk_list (K := c.K) (a := q) (xs := xs), fun S'' H'' e1 e2 e3 => show SqL c.K H'' q xs from .inl (.inl (e3 _ _ h3)), fun i S1 H1 x H2 hi e1 e2 y => ?_⟩⟩
      obtain ⟨rfl, hx⟩ := y
      obtain ⟨d, h1, h2⟩ := rr.getV hx
      exact ⟨S1, d, Fwd.refl e2, h1, h2.mono e1⟩
  | fz ds =>
    rcases h2 with h2 | ⟨q, ho, rfl, h3, h4⟩
    · cases h2 with | @fz q xs _ h rr =>
      exact ⟨q, rfl, ⟨xs, ok.ex.l h⟩, p1.go ok.ex _ (gives_list h rr)⟩
    · cases h4
  | _ => exact p1.elim
/-- range(n), range(a, b) -/
def rngL (lo : Int) (n : Nat) : List D := (List.range n).map fun (i : Nat) => D.int (lo + (i : Int))
theorem gives_rng {c : Cf} {H0 S : Hp} {lo : Int} {n : Nat} : Gives c H0 S (Itr lo n) (rngL lo n) := by
  have hl : (rngL lo n).length = n := by unfold rngL; simp
  refine ⟨_, _, by rw [hl]; exact walk_range, fun _ _ _ _ _ => trivial, fun i S1 H1 x H2 hi e1 e2 y => ?_⟩
  obtain ⟨rfl, rfl⟩ := y
  rw [hl] at hi
  exact ⟨S1, .int (lo + (i : Int)), Fwd.refl e2, by unfold rngL; simp [hi], .int _⟩
noncomputable def rng1 : List D → Res (List D)
  | [.int n] => guard (-4611686018427387904 ≤ n ∧ n < 4611686018427387904) (.ok (rngL 0 n.toNat))
  | _ => .bad
def dIts (g : List D → Res (List D)) (fs : Rho → Res (List D)) : Rho → Res (List D) := fun r => (fs r).bind g
theorem di_rng1 {p : Pos} {fs : Rho → Res (List D)} (hm : X.mg "range" = none) (hg : Gl X "range") (ha : PA X [a] (tAs c G fs)) (hs : starEach [a] X.env = [(false, eval a X.env)] := by rfl) : PI X tg (.Call (.Name "range" p) [a] [] pos) (iD c G (dIts rng1 fs)) :=
  pi_imp (pi_range1 hg hm ha hs) fun σ H R ⟨S0, H0, S, r, ok, p⟩ => rd_seq ok p fun ds vs S1 H1 w1 o1 m1 p1 => by
    unfold rng1 at p1
    split at p1
    · obtain ⟨hl, p1⟩ := p1.gd
      match vs, m1 with
      | _, .cons h .nil => cases h; exact ⟨_, rfl, by have := hl.1; omega, by have := hl.2; omega, p1.go o1.ex _ gives_rng⟩
    · exact p1.elim
/-- the signs of a text -/
def signs (z : Str) : List D := z.cps.toList.map fun n => .str ⟨#[n]⟩
def itemsS : D → Res (List D)
  | .str z => .ok (signs z)
  | _ => .bad
theorem di_str (he : PE X e (tV c G f)) : PI X tg e (iD c G (dIt itemsS f)) := pi_imp (pi_str he) fun σ H R ⟨S0, H0, S, r, ok, p⟩ => rd_seq ok p fun d v S1 H1 w1 o1 m1 p1 => by
  cases d with
  | str z =>
    cases m1
    have hl : (signs z).length = z.cps.size := by unfold signs; simp
    refine ⟨z, rfl, p1.go o1.ex _ ⟨_, _, by rw [hl]; exact walk_str (z := z), fun _ _ _ _ _ => trivial, fun i S2 H2 x H3 hi e1 e2 y => ?_⟩⟩
    obtain ⟨rfl, n, hn, rfl⟩ := y
    refine ⟨S2, .str ⟨#[n]⟩, Fwd.refl e2, ?_, .str _⟩
    unfold signs
    rw [List.getElem?_map, Array.getElem?_toList, hn]; rfl
  | _ => exact p1.elim
def loopF (t : D → Rho → Res Rho) (F : Rho → SR) : List D → Rho → SR
  | [], r => .nx r
  | d :: ds, r => match t d r with
    | .ok r1 => match F r1 with
      | .nx r2 => loopF t F ds r2
      | .ct r2 => loopF t F ds r2
      | .bk r2 => .nx r2
      | o => o
    | _ => .bad
def forF (its : Rho → Res (List D)) (t : D → Rho → Res Rho) (F : Rho → SR) : Rho → SR := fun r => liftS r (its r) fun ds => loopF t F ds r
theorem ds_for {iter : Expr} {body : List Stmt} {its : Rho → Res (List D)} {ks : List Nat} {t : D → Rho → Res Rho} {F : Rho → SR} (hg : Gok c G) (hp : PassesOwn (model X.prog X.w) X.A X.env X.xe) (hc : X.calm = true) (hi : PI X tg iter (iD c G its)) (ht : PG X tg (gD c G G' ks t)) (hb : PSs X body (sD c G G' G F))
    (hs : ∀ x, foldedSetIterable iter X.env x = pure x := by intro _; rfl) : PS X (.For tg iter body [] pos) (sD c L G G (forF its t F)) :=
  ps_imp (ps_for hp hc hi ht hb hs) fun E σ H ⟨S0, H0, S, r, ok, p⟩ => by
    refine ⟨S0, H0, S, r, ok, ?_⟩
    unfold forF at p
    cases hf : its r with
    | err n ns vs =>
      rw [hf] at p
      exact fun C dd S' H' fs h1 fw h2 h3 h4 => p C dd σ S' H' fs h1 (ok.fwd.trans fw) (fun g q => by rw [hg g q]; exact ok.go fw) h2 h3 h4
    | bad => rw [hf] at p; exact p.elim
    | ok ds =>
      rw [hf] at p
      intro S1 H1 w1 J ⟨Gd, Y, wk, hG, hY⟩
      have p : PostS c S0 H0 L G (loopF t F ds r) E := p
      refine for_it wk (fun i σ' H' => ∃ S' r', Ex S1 S' ∧ EnvOk c S0 H0 G S' H' σ' r' ∧ PostS c S0 H0 L G (loopF t F (ds.drop i) r') E) ⟨S1, r, Ex.refl, ok.go w1, by rw [List.drop_zero]; exact p⟩ ?_ ?_ ?_
      · rintro i σ' H' _ ⟨S', r', e1, ok', _⟩
        exact hG S' H' e1 ok'.ex ok'.fwd.h
      · rintro i x σ' H' H2 hi ⟨S', r', e1, ok', p'⟩ y
        obtain ⟨S2, d, fw, hd, hx⟩ := hY i S' H' x H2 hi e1 ok'.ex y
        have hdrop : ds.drop i = d :: ds.drop (i + 1) := by
          rw [List.drop_eq_getElem_cons hi]
          rw [List.getElem?_eq_getElem hi] at hd
          cases hd; rfl
        rw [hdrop] at p'
        unfold loopF at p'
        refine ⟨S0, H0, S2, r', d, ok'.go fw, hx, ?_⟩
        cases htt : t d r' with
        | err _ _ _ => rw [htt] at p'; exact p'.elim
        | bad => rw [htt] at p'; exact p'.elim
        | ok r1 =>
          rw [htt] at p'
          intro σ3 _ ok3
          refine ⟨S2, H0, S2, r1, ok3.rebase, ?_⟩
          dsimp only at p'
          have fin : ∀ σ4 S4 H4 r4, EnvOk c S2 H0 G S4 H4 σ4 r4 → PostS c S0 H0 L G (loopF t F (ds.drop (i + 1)) r4) E → ∃ S' r', Ex S1 S' ∧ EnvOk c S0 H0 G S' H4 σ4 r' ∧ PostS c S0 H0 L G (loopF t F (ds.drop (i + 1)) r') E := fun σ4 S4 H4 r4 e4 p4 =>
            ⟨S4, r4, (e1.trans fw.s).trans e4.fwd.s, e4.unbase ok3.fwd, p4⟩
          cases hF : F r1 with
          | nx r2 => rw [hF] at p'; exact fun σ4 S4 H4 e4 => fin σ4 S4 H4 r2 e4 p'
          | ct r2 => rw [hF] at p'; exact fun σ4 S4 H4 e4 => fin σ4 S4 H4 r2 e4 p'
          | bk r2 => rw [hF] at p'; exact fun σ4 S4 H4 e4 => p' σ4 S4 H4 (e4.unbase ok3.fwd)
          | rt d => rw [hF] at p'; exact PostS.rebase (c := c) (o := .rt d) (E := E) ok3.fwd p'
          | er r2 n ns vs => rw [hF] at p'; exact PostS.rebase (c := c) (o := .er r2 n ns vs) (E := E) ok3.fwd p'
          | bad => rw [hF] at p'; exact p'.elim
      · rintro σ' H' ⟨S', r', e1, ok', p'⟩
        rw [List.drop_length] at p'
        exact p' σ' S' H' ok'
end
end Dx
end S_DxE
section S_DxF
set_option Elab.async false
set_option linter.all false
set_option maxRecDepth 100000
set_option maxHeartbeats 2000000
namespace L2N
open PySem PySem.Spec PyProof.Rows L2
theorem passLN {X : Cx} : Passes (L2N.CX X.prog X.w) X E0 := by
  rintro _ _ _ _ _ _ _ ⟨_, _, _, _, _, _, _, _, _, _, _, _, z⟩
  exact z.elim
theorem _root_.L2.Fun.okN {P : Program} {w : World} {K : PySem.W.Frag} {mg : Str → Option Value} {base : Heap} {k : Nat} {f : Addr} {x qual : Str} {st : Stmt} {fd : FuncData} {N ps : List Str} {sp : Sp} (F : Fun K x qual st f fd) (S : FnScope N ps (defScope st))
    (len : ∀ vs H Q E, sp vs H Q E → vs.length = ps.length)
    (hb : ∀ (cdv : Value) (A : Around) (outer : List Env) (s : Shared) (H : Hp) (vs : List V) (Q : VK) (E : XK), Room k (A.deeper (envOfC qual (defScope st) s.heap.objs.size f cdv)) → sp vs H Q E →
      ∃ t, PSs (cxOf (L2N.CX P w) P w K mg base N qual (defScope st) f cdv A outer s H E) (defBody st) t ∧ t { nx := fun _ H' => Q .non H', rt := Q } (start N vs) H) :
    FnOk P w K mg base (L2N.CX P w) (k + 1) f fd ps sp := match F.ex with
  | ⟨_, _, _, _, _, _, cdv, _, _, h, lk, hcd⟩ => by
    subst h
    exact fn_of lk hcd S len fun A outer s H vs Q E hr hsp => hb cdv A outer s H vs Q E hr hsp
end L2N
namespace Dx
open PySem L2
def wipeR (r : Rho) : List Nat → Rho
  | [] => r
  | v :: vs => (wipeR r vs).set v none
theorem wipeR_len (r : Rho) : ∀ vs : List Nat, (wipeR r vs).length = r.length
  | [] => rfl
  | v :: vs => by show ((wipeR r vs).set v none).length = _; rw [List.length_set, wipeR_len r vs]
theorem wipeR_some {r : Rho} {i : Nat} {d : D} : ∀ {vs : List Nat}, (wipeR r vs)[i]? = some (some d) → r[i]? = some (some d) ∧ i ∉ vs
  | [], h => ⟨h, by simp⟩
  | v :: vs, h => by
    rcases set_some (l := wipeR r vs) h with ⟨_, e, _⟩ | ⟨ne, h⟩
    · cases e
    · obtain ⟨h1, h2⟩ := wipeR_some h
      exact ⟨h1, by simp [Ne.symm ne, h2]⟩
/-- within a comprehension nothing is raised -/
abbrev Cf.calm (c : Cf) : Cf := ⟨c.K, c.cm, fun _ _ _ _ => False, none, c.rm⟩
section
variable {X : Cx} {c : Cf} {L G G' : List Ow} {σ : St} {S0 H0 S H : Hp} {r : Rho}
theorem EnvOk.wiped (e : EnvOk c S0 H0 G S H σ r) (vs : List Nat) : EnvOk c.calm S0 H0 G S H (wipe σ vs) (wipeR r vs) := by
  refine ⟨e.fwd, by rw [wipe_length, wipeR_len, e.len], fun i d h => ?_, fun i j d d' p hi hj ki kj si sj => ?_, let ⟨A, hA⟩ := e.sto; ⟨A, hA.sub (fun a ha => (hA.out a ha).1) (fun _ _ => rfl) Ex.refl (fun i d p hi ki si => hA.own i d p (wipeR_some hi).1 ki (wipe_some si).1) fun i d ki hi => ⟨rfl, (wipeR_some hi).1, by rw [wipe_get, if_neg (wipeR_some hi).2]⟩⟩⟩
  · obtain ⟨h1, h2⟩ := wipeR_some h
    obtain ⟨v, h3, h4⟩ := e.slot i d h1
    exact ⟨v, by rw [wipe_get, if_neg h2]; exact h3, h4⟩
  · exact e.sep i j d d' p (wipeR_some hi).1 (wipeR_some hj).1 ki kj (wipe_some si).1 (wipe_some sj).1
theorem Fwd.put {S' H' : Hp} {p : Addr} {o : HO} (f : Fwd S H S' H') (n : H p = none) (ns : S' p = none) : Fwd S H S' (upd H' p o) := ⟨f.s, f.h.put n, f.sub.put ns, f.new⟩
def lcLoop (t : D → Rho → Res Rho) (tt : Rho → Res Bool) (fe : Rho → Res D) (rw : Rho) : List D → Res (List D)
  | [] => .ok []
  | d :: ds => match t d rw with
    | .ok r1 => match tt r1 with
      | .ok true => match fe r1 with
        | .ok x => match lcLoop t tt fe rw ds with
          | .ok xs => .ok (x :: xs)
          | _ => .bad
        | _ => .bad
      | .ok false => lcLoop t tt fe rw ds
      | _ => .bad
    | _ => .bad
noncomputable def dLc (its : Rho → Res (List D)) (t : D → Rho → Res Rho) (tt : Rho → Res Bool) (fe : Rho → Res D) (vs : List Nat) : Rho → Res D := fun r => (its r).bind fun ds => guard (ds.length ≤ sizeLine) (match lcLoop t tt fe (wipeR r vs) ds with
  | .ok xs => .ok (.lst xs)
  | _ => .bad)
def dYes : Rho → Res Bool := fun _ => .ok true
/-- what is walked, as long as nothing that is there changes -/
def iDl (c : Cf) (G : List Ow) (f : Rho → Res (List D)) : TI := fun σ H R => ∃ S0 H0 S r, EnvOk c S0 H0 G S H σ r ∧ PostG c σ S H (f r) fun ds S' H' => ∀ J, Gives c H' S' J ds → R J H'
theorem pi_l {tg it : Expr} {f : Rho → Res (List D)} (h : PI X tg it (iD c G f)) : PI X tg it (iDl c G f) := pi_imp h fun σ H R ⟨S0, H0, S, r, ok, p⟩ => ⟨S0, H0, S, r, ok, p.imp fun ds S' H' fw hk J gv => hk J (let ⟨Gd, Y, h1, h2, h3⟩ := gv; ⟨Gd, Y, h1, fun S'' H'' e1 e2 e3 => h2 S'' H'' e1 e2 ((ok.fwd.h.trans fw.h).trans e3), h3⟩)⟩
theorem lc_rd {its : Rho → Res (List D)} {t : D → Rho → Res Rho} {tt : Rho → Res Bool} {fe : Rho → Res D} {vs : List Nat} : ∀ σ H Q, tO c G (dLc its t tt fe vs) σ H Q →
    tLc (iDl c G its) (gD c.calm G G' vs t) (tT c.calm G' tt) (tV c.calm G' fe) vs σ H Q := fun σ H Q ⟨S0, H0, S, r, ok, p⟩ => by
  refine ⟨S0, H0, S, r, ok, p.unbind.imp fun ds S1 H1 w1 p1 J gv Dl hD => ?_⟩
  obtain ⟨hl, p1⟩ := p1.gd
  obtain ⟨Gd, Y, wk, hG, hY⟩ := gv
  have ok1 := ok.go w1
  split at p1
  · rename_i res hres
    have okw := ok1.wiped vs
    have nS : S1 Dl = none := ok1.ex.nn hD
    refine lc_it wk (fun i H' => ∃ S' acc accD rest, Fwd S1 H1 S' H' ∧ S' Dl = none ∧ H' Dl = some (.lst acc) ∧ RpA c.K c.cm S' acc accD ∧ lcLoop t tt fe (wipeR r vs) (ds.drop i) = .ok rest ∧ accD ++ rest = res ∧ accD.length ≤ i)
      ⟨S1, [], [], res, Fwd.heap ok1.ex hD, nS, upd_same, .nil, by rw [List.drop_zero]; exact hres, rfl, Nat.le_refl _⟩ ?_ ?_ ?_
    · rintro i H' _ ⟨S', acc, accD, rest, fw, _⟩
      exact hG S' H' fw.s fw.sub fw.h
    · rintro i x H' H2 hi ⟨S', acc, accD, rest, fw, n1, h1, r1, hr, ha, hn⟩ y
      obtain ⟨S2, d, fw2, hd, hx⟩ := hY i S' H' x H2 hi fw.s fw.sub y
      have hdrop : ds.drop i = d :: ds.drop (i + 1) := by
        rw [List.drop_eq_getElem_cons hi]
        rw [List.getElem?_eq_getElem hi] at hd
        cases hd; rfl
      rw [hdrop] at hr
      unfold lcLoop at hr
      refine ⟨S0, H0, S2, wipeR r vs, d, okw.go (fw.trans fw2), hx, ?_⟩
      cases ht : t d (wipeR r vs) with
      | err _ _ _ => rw [ht] at hr; cases hr
      | bad => rw [ht] at hr; cases hr
      | ok r2 =>
        rw [ht] at hr
        dsimp only at hr
        intro σ3 z3 ok3
        have hz : L2.wipe (L2.wipe σ vs) vs = L2.wipe σ vs := by
          apply List.ext_getElem?
          intro k
          rw [wipe_get, wipe_get]
          split
          · cases σ[k]? <;> rfl
          · rfl
        have keepN : ∀ S4 H4, Fwd S' H' S4 H4 → S4 Dl = none := fun S4 H4 f4 => by
          cases q : S4 Dl with
          | none => rfl
          | some u => obtain ⟨_, z⟩ := (f4.new Dl u q n1).not h1; cases z
        refine ⟨z3.trans hz, S0, H0, S2, r2, ok3, ?_⟩
        cases htt : tt r2 with
        | err _ _ _ => rw [htt] at hr; cases hr
        | bad => rw [htt] at hr; cases hr
        | ok b =>
          rw [htt] at hr
          intro S4 H4 w4 b' hb
          cases hb
          have f4 := fw2.trans w4
          cases b with
          | false =>
            dsimp only at hr
            rw [if_neg (by decide)]
            exact ⟨S4, acc, accD, rest, fw.trans f4, keepN S4 H4 f4, f4.h _ _ h1, r1.mono f4.s, hr, ha, Nat.le_succ_of_le hn⟩
          | true =>
            dsimp only at hr
            rw [if_pos rfl]
            refine ⟨S0, H0, S4, r2, ok3.go w4, ?_⟩
            cases hfe : fe r2 with
            | err _ _ _ => rw [hfe] at hr; cases hr
            | bad => rw [hfe] at hr; cases hr
            | ok x2 =>
              rw [hfe] at hr
              dsimp only at hr
              cases hlc : lcLoop t tt fe (wipeR r vs) (ds.drop (i + 1)) with
              | err _ _ _ => rw [hlc] at hr; cases hr
              | bad => rw [hlc] at hr; cases hr
              | ok xs2 =>
                rw [hlc] at hr
                cases hr
                intro S5 H5 w5 y5 hy5
                have f5 := f4.trans w5
                refine ⟨acc, f5.h _ _ h1, ?_, S5, acc ++ [y5], accD ++ [x2], xs2, (fw.trans f5).put hD (keepN S5 H5 f5), keepN S5 H5 f5, upd_same, (r1.mono f5.s).app (.one hy5), rfl, ?_, ?_⟩
                · rw [r1.length]; omega
                · rw [← ha, List.append_assoc]; rfl
                · simp; omega
    · rintro H' ⟨S', acc, accD, rest, fw, n1, h1, r1, hr, ha, hn⟩
      rw [List.drop_length] at hr
      cases hr
      rw [List.append_nil] at ha
      subst ha
      exact p1 S' H' fw _ ⟨Dl, .lst acc, rfl, w1.h.nn hD, n1, h1, .lst r1⟩
  · exact p1.elim
theorem de_lc {elt tg iter : Expr} {ifs : List Expr} {scope : Scope} {own : List (Str × Nat)} {pos : Pos} {its : Rho → Res (List D)} {t : D → Rho → Res Rho} {tt : Rho → Res Bool} {fe : Rho → Res D} (hc : X.calm = true) (hN : X.N.Nodup) (hi : PI X tg iter (iD c G its)) (ok : BlkOk X.N X.env.scope scope own)
    (hg : ∀ (s : Shared) (H : Hp) (C : Addr) (cl : List (Str × Addr)) (fp : List Addr), PG (X.blk s H scope (compEnvC scope cl C X.env) fp) tg (gD c.calm G G' (own.map (·.2)) t)) (ht : ∀ (s : Shared) (H : Hp) (C : Addr) (cl : List (Str × Addr)) (fp : List Addr), PTs (X.blk s H scope (compEnvC scope cl C X.env) fp) ifs (tT c.calm G' tt))
    (he : ∀ (s : Shared) (H : Hp) (C : Addr) (cl : List (Str × Addr)) (fp : List Addr), PE (X.blk s H scope (compEnvC scope cl C X.env) fp) elt (tV c.calm G' fe)) (hs : ∀ x, foldedSetIterable iter X.env x = pure x := by intro _; rfl) :
    PE X (.ListComp elt [⟨tg, iter, ifs, 0⟩] scope pos) (tO c G (dLc its t tt fe (own.map (·.2)))) := pe_imp (pe_lc hc hN (pi_l hi) ok hg ht he hs) lc_rd
/-- name = [..] on one line, the name a local -/
theorem ds_setLc (i : Nat) {y : Str} {py : Pos} {elt tg iter : Expr} {ifs : List Expr} {scope : Scope} {own : List (Str × Nat)} {pos spos : Pos} {its : Rho → Res (List D)} {t : D → Rho → Res Rho} {tt : Rho → Res Bool} {fe : Rho → Res D} (hgk : Gok c G) (hG : i < G.length) (hc : X.calm = true) (hN : X.N.Nodup) (hy : X.N[i]? = some y) (hyl : X.env.scope.names.lookup y = some .local)
    (hsw : swapsWith (.ListComp elt [⟨tg, iter, ifs, 0⟩] scope pos) (some (.Name y py)) spos.line X.env = pure true) (hi : PI X tg iter (iD c G its)) (ok : BlkOk X.N X.env.scope scope own)
    (hg : ∀ (s : Shared) (H : Hp) (C : Addr) (cl : List (Str × Addr)) (fp : List Addr), PG (X.blk s H scope (compEnvC scope cl C X.env) fp) tg (gD c.calm G G' (own.map (·.2)) t)) (ht : ∀ (s : Shared) (H : Hp) (C : Addr) (cl : List (Str × Addr)) (fp : List Addr), PTs (X.blk s H scope (compEnvC scope cl C X.env) fp) ifs (tT c.calm G' tt))
    (he : ∀ (s : Shared) (H : Hp) (C : Addr) (cl : List (Str × Addr)) (fp : List Addr), PE (X.blk s H scope (compEnvC scope cl C X.env) fp) elt (tV c.calm G' fe)) (hs : ∀ x, foldedSetIterable iter X.env x = pure x := by intro _; rfl) :
    PS X (.Assign [.Name y py] (.ListComp elt [⟨tg, iter, ifs, 0⟩] scope pos) spos) (sD c L G (G.set i .o) (setF i (dLc its t tt fe (own.map (·.2))))) :=
  ps_imp (ps_setLc hc hN hy hyl hsw (pi_l hi) ok hg ht he hs) fun E σ H ⟨S0, H0, S, r, ok, p⟩ => lc_rd σ H _ (st_seq hgk ok p fun d v S1 H1 w1 o1 m1 p1 => by
    obtain ⟨q, ho, rfl, n, ns, hp, h⟩ := m1
    exact p1 _ S1 H1 (ok.setO w1 i hG n ns hp h))
theorem dt_nil : PTs X [] (tT c G dYes) := ⟨fun pins s σ H Q I ⟨S0, H0, S, r, ok, p⟩ => pts_nil.run pins s σ H Q I (p.go ok.ex _ rfl)⟩
end
/-- the mode of its result: own, or a value -/
def mR (c : Cf) (rm : Bool) : Md V D := if rm then mO c else mV c
instance {c : Cf} {rm : Bool} : Anti (mR c rm) := by
  cases rm with
  | true => exact (inferInstance : Anti (mO c))
  | false => exact (inferInstance : Anti (mV c))
/-- F by data; ms the arguments' modes; rm whether the result is a new object that nothing else holds -/
def spD (K : PySem.W.Frag) (cm : CM) (ms : List Bool) (rm : Bool) (F : List D → Res D) : Sp := fun vs H Q E => ∃ S ds, Ex S H ∧ RpM ⟨K, cm, fun _ _ _ _ => False, none, rm⟩ S H ms vs ds ∧
  PostG ⟨K, cm, fun cls d _ H => E cls d H, none, rm⟩ [] S H (F ds) fun a S' H' => ∀ b, mR ⟨K, cm, fun _ _ _ _ => False, none, rm⟩ rm H S' H' b a → Q b H'
section
variable {X : Cx} {c : Cf} {L G G' : List Ow} {k : Nat} {f : Addr} {fd : FuncData} {ps : List Str} {x : Str} {p pos : Pos} {e : Expr} {es : List Expr} {fs : Rho → Res (List D)} {ms : List Bool} {rm : Bool} {F : List D → Res D}
theorem RpM.cf {c c' : Cf} {S H : Hp} (hK : c.K = c'.K) (hm : c.cm = c'.cm) : ∀ {ms : List Bool} {vs : List V} {ds : List D}, RpM c S H ms vs ds → RpM c' S H ms vs ds
  | [], [], [], _ => trivial
  | true :: ms, v :: vs, d :: ds, h => ⟨by rw [← hK, ← hm]; exact h.1, RpM.cf hK hm h.2⟩
  | false :: ms, v :: vs, d :: ds, h => ⟨by rw [← hK, ← hm]; exact h.1, RpM.cf hK hm h.2⟩
  | [], _ :: _, _, h => h.elim
  | [], [], _ :: _, h => h.elim
  | true :: _, [], _, h => h.elim
  | true :: _, _ :: _, [], h => h.elim
  | false :: _, [], _, h => h.elim
  | false :: _, _ :: _, [], h => h.elim
theorem call_rd {E : XK} {σ : St} {S H : Hp} {vs : List V} {ds : List D} {Q : VK} (hE : ∀ cls d H, c.W cls d σ H → E cls d H) (ex : Ex S H) (m : RpM c S H ms vs ds)
    (q : PostG c σ S H (F ds) fun a S' H' => ∀ b, mR c rm H S' H' b a → Q b H') : spD c.K c.cm ms rm F vs H Q E := by
  refine ⟨S, ds, ex, RpM.cf (c := c) (c' := ⟨c.K, c.cm, fun _ _ _ _ => False, none, rm⟩) rfl rfl m, ?_⟩
  cases hF : F ds with
  | ok a =>
    rw [hF] at q
    intro S' H' w b hb
    refine q S' H' w b ?_
    cases rm with
    | true => exact hb
    | false => exact hb
  | err n ns vs => rw [hF] at q; exact fun C dd S' H' fs h1 w h2 h3 h4 => hE _ _ _ (q C dd S' H' fs h1 w h2 h3 h4)
  | bad => rw [hF] at q; exact q.elim
/-- f(e, ..), f a def of the text -/
theorem de_call (F1 : FnOk X.prog X.w X.K X.mg X.base (L2N.CX X.prog X.w) k f fd ps (spD c.K c.cm ms rm F)) (tk : L2N.Takes X c.W) (hr : Room k X.A) (hg : Gl X x) (hm : X.mg x = some (.ref f)) (hk : PySem.W.keepIn X.K (.ref f) = true) (hb : Binds X.K fd ps [])
    (ha : PA X (e :: es) (tM c G ms fs)) (hdb : (x == ("__debug__" : Str)) = false := by decide) (he : starEach (e :: es) X.env = (false, eval e X.env) :: starEach es X.env := by rfl) (hpl : (backTo pos (starEach es X.env)).any (·.1) = false := by rfl) :
    PE X (.Call (.Name x p) (e :: es) [] pos) (rd c G (dCall F fs) (mR c rm)) :=
  pe_imp (pe_callSD (E := fun σ cls d H => c.W cls d σ H) F1 hr hg hm hk hb .nil (fun σ => L2N.passAt tk σ) ha hdb he hpl) fun σ H Q ⟨S0, H0, S, r, ok, q⟩ => rd_seq ok q fun ds vs S1 H1 w1 o1 m1 p1 => by
    rw [List.append_nil]
    exact call_rd (fun _ _ _ h => h) o1.ex m1 (p1.anti w1.h)
theorem de_callV (F1 : FnOk X.prog X.w X.K X.mg X.base (L2N.CX X.prog X.w) k f fd ps (spD c.K c.cm ms false F)) (tk : L2N.Takes X c.W) (hr : Room k X.A) (hg : Gl X x) (hm : X.mg x = some (.ref f)) (hk : PySem.W.keepIn X.K (.ref f) = true) (hb : Binds X.K fd ps [])
    (ha : PA X (e :: es) (tM c G ms fs)) (hdb : (x == ("__debug__" : Str)) = false := by decide) (he : starEach (e :: es) X.env = (false, eval e X.env) :: starEach es X.env := by rfl) (hpl : (backTo pos (starEach es X.env)).any (·.1) = false := by rfl) :
    PE X (.Call (.Name x p) (e :: es) [] pos) (tV c G (dCall F fs)) := de_call F1 tk hr hg hm hk hb ha hdb he hpl
def startR (n : Nat) (ds : List D) : Rho := ds.map some ++ List.replicate (n - ds.length) none
def G0 (ms : List Bool) (n : Nat) : List Ow := ms.map (fun m => if m then .b else .v) ++ List.replicate (n - ms.length) .v
def runF (n : Nat) (rm : Bool) (Fb : Rho → SR) (ds : List D) : Res D := match Fb (startR n ds) with
  | .rt d => .ok d
  | .nx _ => if rm then .bad else .ok .non
  | .er _ n ns vs => .err n ns vs
  | _ => .bad
theorem RpM.get {S H : Hp} : ∀ {ms : List Bool} {vs : List V} {ds : List D} {i : Nat} {d : D}, RpM c S H ms vs ds → ds[i]? = some d → ∃ v m, vs[i]? = some v ∧ ms[i]? = some m ∧ SlotOk c H S H (if m then .b else .v) v d
  | [], [], [], _, _, _, h => by simp at h
  | true :: ms, v :: vs, d :: ds, 0, e, h, q => by simp at q; subst q; exact ⟨v, true, by simp, by simp, h.1⟩
  | false :: ms, v :: vs, d :: ds, 0, e, h, q => by simp at q; subst q; exact ⟨v, false, by simp, by simp, h.1⟩
  | true :: ms, v :: vs, d :: ds, i + 1, e, h, q => by
    obtain ⟨v, m, h1, h2, h3⟩ := RpM.get (i := i) h.2 (by simpa using q)
    exact ⟨v, m, by simpa using h1, by simpa using h2, h3⟩
  | false :: ms, v :: vs, d :: ds, i + 1, e, h, q => by
    obtain ⟨v, m, h1, h2, h3⟩ := RpM.get (i := i) h.2 (by simpa using q)
    exact ⟨v, m, by simpa using h1, by simpa using h2, h3⟩
  | [], _ :: _, _, _, _, h, _ => h.elim
  | [], [], _ :: _, _, _, h, _ => h.elim
  | true :: _, [], _, _, _, h, _ => h.elim
  | true :: _, _ :: _, [], _, _, h, _ => h.elim
  | false :: _, [], _, _, _, h, _ => h.elim
  | false :: _, _ :: _, [], _, _, h, _ => h.elim
theorem RpM.len {S H : Hp} : ∀ {ms : List Bool} {vs : List V} {ds : List D}, RpM c S H ms vs ds → vs.length = ms.length ∧ ds.length = ms.length
  | [], [], [], _ => ⟨rfl, rfl⟩
  | true :: ms, v :: vs, d :: ds, h => by have := RpM.len h.2; simp [this.1, this.2]
  | false :: ms, v :: vs, d :: ds, h => by have := RpM.len h.2; simp [this.1, this.2]
  | [], _ :: _, _, h => h.elim
  | [], [], _ :: _, h => h.elim
  | true :: _, [], _, h => h.elim
  | true :: _, _ :: _, [], h => h.elim
  | false :: _, [], _, h => h.elim
  | false :: _, _ :: _, [], h => h.elim
theorem kd_G0 {ms : List Bool} {n i : Nat} : ¬ isO (kd (G0 ms n) i) := by
  unfold kd G0
  rw [List.getD_eq_getElem?_getD, List.getElem?_append]
  split
  · rw [List.getElem?_map]
    cases ms[i]? with
    | none => intro h; cases h
    | some m => cases m <;> (intro h; cases h)
  · rw [List.getElem?_replicate]
    split <;> (intro h; cases h)
theorem kd_G0_sw {ms : List Bool} {n i : Nat} : (∀ P, kd (G0 ms n) i ≠ .s P) ∧ kd (G0 ms n) i ≠ .w := by
  unfold kd G0
  rw [List.getD_eq_getElem?_getD, List.getElem?_append]
  split
  · rw [List.getElem?_map]
    cases ms[i]? with
    | none => exact ⟨fun _ h => (by cases h), fun h => (by cases h)⟩
    | some m => cases m <;> exact ⟨fun _ h => (by cases h), fun h => (by cases h)⟩
  · rw [List.getElem?_replicate]
    split <;> exact ⟨fun _ h => (by cases h), fun h => (by cases h)⟩
theorem kd_G0_at {ms : List Bool} {n i : Nat} {m : Bool} (h : ms[i]? = some m) : kd (G0 ms n) i = if m then .b else .v := by
  unfold kd G0
  have hl : i < ms.length := (List.getElem?_eq_some_iff.mp h).1
  rw [List.getD_eq_getElem?_getD, List.getElem?_append, if_pos (by simpa using hl), List.getElem?_map, h]
  rfl
theorem startR_some {n i : Nat} {ds : List D} {d : D} (h : (startR n ds)[i]? = some (some d)) : ds[i]? = some d := by
  unfold startR at h
  rw [List.getElem?_append] at h
  split at h
  · rw [List.getElem?_map] at h
    cases q : ds[i]? with
    | none => rw [q] at h; cases h
    | some e => rw [q] at h; cases h; rfl
  · rw [List.getElem?_replicate] at h
    split at h <;> cases h
theorem env_start {N : List Str} {S H : Hp} {vs : List V} {ds : List D} (ex : Ex S H) (m : RpM c S H ms vs ds) (hn : ms.length ≤ N.length) : EnvOk c S H (G0 ms N.length) S H (L2.start N vs) (startR N.length ds) := by
  have hl := m.len
  refine ⟨Fwd.refl ex, by unfold L2.start startR; simp [hl.1, hl.2], fun i d h => ?_, fun i j d e p _ _ k _ _ _ => absurd k kd_G0, ⟨[], .nil fun _ _ _ => kd_G0_sw⟩⟩
  have hd := startR_some h
  obtain ⟨v, mm, h1, h2, h3⟩ := m.get hd
  refine ⟨v, ?_, by rw [kd_G0_at h2]; exact h3⟩
  unfold L2.start
  have hlt : i < vs.length := (List.getElem?_eq_some_iff.mp h1).1
  rw [List.getElem?_append, if_pos (by simpa using hlt), List.getElem?_map, h1]
  rfl
end
section
variable {P : Program} {w : World} {K : PySem.W.Frag} {mg : Str → Option Value} {base : Heap} {cm : CM}
abbrev cfE (K : PySem.W.Frag) (cm : CM) (rm : Bool) (E : XK) : Cf := ⟨K, cm, fun cls d _ H => E cls d H, none, rm⟩
/-- THE RULE for a def: its body by data -/
theorem dok {x qual : Str} {st : Stmt} {f : Addr} {fd : FuncData} {N ps : List Str} {k : Nat} {ms : List Bool} {rm : Bool} {G' : List Ow} {Fb : Rho → SR} (F : Fun K x qual st f fd) (S : FnScope N ps (defScope st)) (hm : ms.length = ps.length) (hn : ps.length ≤ N.length)
    (hb : ∀ (cdv : Value) (A : Around) (outer : List Env) (s : Shared) (H : Hp) (E : XK), Room k (A.deeper (PyProof.Rows.envOfC qual (defScope st) s.heap.objs.size f cdv)) →
      PSs (cxOf (L2N.CX P w) P w K mg base N qual (defScope st) f cdv A outer s H E) (defBody st) (sD (cfE K cm rm E) [] (G0 ms N.length) G' Fb)) :
    FnOk P w K mg base (L2N.CX P w) (k + 1) f fd ps (spD K cm ms rm (runF N.length rm Fb)) := by
  refine F.okN S (fun vs H Q E h => ?_) (fun cdv A outer s H vs Q E hr h => ?_)
  · obtain ⟨S, ds, _, m, _⟩ := h
    rw [m.len.1, hm]
  · obtain ⟨S, ds, ex, m, q⟩ := h
    refine ⟨_, hb cdv A outer s H E hr, S, H, S, startR N.length ds, env_start ex (RpM.cf (c := ⟨K, cm, fun _ _ _ _ => False, none, rm⟩) (c' := cfE K cm rm E) rfl rfl m) (by omega), ?_⟩
    unfold runF at q
    cases hF : Fb (startR N.length ds) with
    | rt d =>
      rw [hF] at q
      show PostS _ _ _ _ _ (.rt d) _
      unfold PostS
      dsimp only
      cases rm with
      | true => exact fun p ho S' H' fw n ns hp hh => q S' H' fw _ ⟨p, ho, rfl, n, ns, hp, hh⟩
      | false => exact fun v S' H' fw hv => q S' H' fw v hv
    | nx r =>
      rw [hF] at q
      cases rm with
      | true => exact q.elim
      | false => exact fun σ' S' H' ok => q S' H' ok.fwd _ Rp.non
    | er r n ns vs =>
      rw [hF] at q
      exact fun C dd σ' S' H' fs h1 fw _ h2 h3 h4 => q C dd S' H' fs h1 fw h2 h3 h4
    | bk r => rw [hF] at q; exact q.elim
    | ct r => rw [hF] at q; exact q.elim
    | bad => rw [hF] at q; exact q.elim
end
end Dx
end S_DxF
section S_DxG
set_option Elab.async false
set_option linter.all false
set_option maxRecDepth 100000
set_option maxHeartbeats 2000000
namespace L2N
open PySem PySem.Spec PyProof.Rows L2
/-- C(e, ..), C an own exception class; the made object's context is None -/
theorem pmk_oexN {X : Cx} {CX : CXT} {e : Expr} {es : List Expr} {ta : TA} {p pos : Pos} {x : Str} {C fI : Addr} {k : Nat} {fd : FuncData} {ps : List Str} {sp : Sp} {ds : List Value} {dvs : List V} (T : OexC X.K C)
    (iC : PySem.W.findIn X.K (.ref C) "__init__" = some (some (.ref fI))) (tI : PySem.W.typeIn X.K (.ref fI) = some (.type "function")) (F1 : FnOk X.prog X.w X.K X.mg X.base CX k fI fd ps sp) (hr : Room (k + 1) X.A)
    (hb : Binds X.K fd ps ds) (hd : Vals dvs ds) (hx : Passes CX X (fun _ _ _ => False)) (hg : Gl X x) (hm : X.mg x = some (.ref C)) (ha : PA X (e :: es) ta) (hdb : (x == ("__debug__" : Str)) = false := by decide)
    (he : starEach (e :: es) X.env = (false, eval e X.env) :: starEach es X.env := by rfl) (hpl : (backTo pos (starEach es X.env)).any (·.1) = false := by rfl) :
    PMk X (.Call (.Name x p) (e :: es) [] pos) (tMkO C sp dvs ta) := by
  intro pins s σ H Q I h
  obtain ⟨nm, q, N, bs, bm, sn, sub, ab, col, dd, k0, k1, k2, k3, k5, hC, hbm⟩ := T.cls
  refine wpAny_Call_Name_kw (ld_glob I hg hm (PySem.W.callWith_K (h₀ := X.base) I.ok.mod.kin T.kC (thn (ha.run pos pins s σ H _ I h) ?_) he hpl) hdb)
  rintro us ⟨hp, g, dr, tk, os⟩ ⟨vs, H1, I1, r1, hz, q1⟩
  refine ⟨I1.kIn, ?_⟩
  show wpAny _ _ (call (.ref C) us) _ _ _
  have hsz : hp.objs.size ≤ hp.objs.size + 1 := Nat.le_succ _
  have hq := q1 (hp.objs.size + 1) (I1.hok.fresh hsz)
  have kk : ∀ b o, hp.get? b = some o → ((hp.push (PySem.W.kdv_tup us)).push (PySem.HandSPX.excO C hp.objs.size)).get? b = some o := fun b o z =>
    Heap.get?_push_of_some _ (Heap.get?_push_of_some _ z)
  have I2 : Inv X pins σ (upd H1 (hp.objs.size + 1) (exo (hp.objs.size + 1) C none)) ⟨(hp.push (PySem.W.kdv_tup us)).push (PySem.HandSPX.excO C hp.objs.size), g, dr, tk, os⟩ :=
    I1.laid (t' := tk) (a := hp.objs.size + 1) kk hsz (exo_ok (by heap_get))
  have r2 : Vals (V.ref (hp.objs.size + 1) :: (vs ++ dvs)) (Value.ref (hp.objs.size + 1) :: (us ++ ds)) := .cons rfl (r1.append hd)
  have hl : (Value.ref (hp.objs.size + 1) :: us ++ ds).length = ps.length := (r2.length.symm.trans (F1.len _ _ _ _ hq))
  have hus : us.length ≤ sizeLine := by
    have z := Paired.length r1
    rw [sizeLine_eq]; omega
  refine wpAny_call (PySem.HandSPX.call_own F.excBase_ValueError (fun Y => PySem.HandSPX.refsVE_contains Y bm hbm) (I1.kIn _ _ hC) (PySem.W.looks_findIn I1.kIn iC) (fun self => PySem.W.bind_fn I1.kIn self tI) hus (codeAny_mono (F1.run _ X.stack _ _
    ⟨Value.ref (hp.objs.size + 1) :: us, []⟩ _ _ _ (fun _ _ _ => False) (hr.make C us []) (I2.env0.make C us []) (hb _ (Value.ref (hp.objs.size + 1) :: us) I2.kIn hl) r2 hq) fun r s' hq' => ?_))
  match r, hq' with
  | .error er, z => exact hx pins σ _ _ er s' I2 z
  | .ok (.ret u), z =>
    obtain ⟨h2, g2, d2, t2, os'⟩ := s'
    obtain ⟨v, H2, os2, bare2, un2, hok2, rv, rfl, d, fs, ea, ed, hd1, q2⟩ := z
    obtain ⟨t0, G, J, kG, ge, hoe, na⟩ := mk_end0 (d2 := d2) (t2 := t2) I1 hsz kk un2 hok2 os2 bare2 ea ed hd1
    exact ⟨rv, ⟨hp.objs.size + 1, _, _, ⟨G, g2, d2, t2, os'⟩, _, .ref C, some d, rfl, J, kG, ge, hoe, ⟨rfl, rfl, fun vs hv => by cases hv; rfl⟩, rfl, rfl, na, rfl, bare2, raises_own T.exC T.tyC, q2⟩⟩
  | .ok .next, z => exact z.elim
  | .ok .brk, z => exact z.elim
  | .ok .cont, z => exact z.elim
end L2N
namespace Dx
open PySem L2
section
variable {X : Cx} {c : Cf} {L G G' : List Ow}
def spX1 (K : PySem.W.Frag) (C : Addr) (f : Str) : Sp := fun vs H Q _ => ∃ (a : Addr) (w : V), vs = [.ref a, w] ∧ OexC K C ∧ PySem.W.findIn K (.ref C) f = some none ∧ H a = some (exo a C none) ∧
  ∀ d, H d = none → d ≠ a → Q .non (upd (upd H d (exd d [(f, w)])) a (exo a C (some d)))
theorem xinit1 {P : Program} {w : World} {K : PySem.W.Frag} {mg : Str → Option Value} {base : Heap} {qual : Str} {st : Stmt} {fI C : Addr} {fd : FuncData} {N ps : List Str} {fl : Str} (F : Fun K "__init__" qual st fI fd) (S : FnScope N ps (defScope st)) (hl : ps.length = 2) (hN : N.length = 2)
    (hb : ∀ (cdv : Value) (A : Around) (outer : List Env) (s : Shared) (H : Hp) (E : XK), PSs (cxOf (L2N.CX P w) P w K mg base N qual (defScope st) fI cdv A outer s H E) (defBody st) (tOst K fl (tVar 0) (tVar 1))) :
    FnOk P w K mg base (L2N.CX P w) 1 fI fd ps (spX1 K C fl) := by
  refine F.okN (k := 0) S (fun vs H Q E h => ?_) (fun cdv A outer s H vs Q E hr h => ?_)
  · obtain ⟨a, w, rfl, _⟩ := h; exact hl.symm
  · obtain ⟨a, w', rfl, T, hno, ha, q⟩ := h
    refine ⟨_, hb cdv A outer s H E, ?_⟩
    have e : L2.start N [.ref a, w'] = [some (.ref a), some w'] := by unfold L2.start; rw [hN]; rfl
    rw [e]
    exact ⟨w', rfl, .ref a, rfl, a, C, rfl, T, hno, .inl ⟨ha, q⟩⟩
def raiF (n : Str) (ns : List Str) (rev : Bool) (fs : Rho → Res (List D)) : Rho → SR := fun r => liftS r (fs r) fun ds => if ds.length = ns.length then .er r n ns (if rev then ds.reverse else ds) else .bad
variable {e e2 : Expr} {fs : Rho → Res (List D)} {x n : Str} {C fI : Addr} {fd : FuncData} {ps : List Str} {p p' pos : Pos} {fl gl : Str}
theorem heap_x1 {H1 : Hp} {a d C : Addr} {o1 o2 o3 o4 o : HO} (ha : H1 a = none) (hne : d ≠ a) : upd (del (upd (upd (upd H1 a o1) d o2) a o3) a) d o = upd H1 d o := by
  funext b
  by_cases hb : b = d
  · subst hb; rw [upd_same, upd_same]
  · rw [upd_ne hb, upd_ne hb]
    by_cases hba : b = a
    · subst hba; rw [del_same, ha]
    · rw [del_ne hba, upd_ne hba, upd_ne hb, upd_ne hba]
theorem ds_raise1 (hg : Gok c G) (hcn : c.cm n = some C) (hc : X.calm = true) (tk : L2N.Takes X c.W) (T : OexC X.K C) (iC : PySem.W.findIn X.K (.ref C) "__init__" = some (some (.ref fI))) (tI : PySem.W.typeIn X.K (.ref fI) = some (.type "function")) (hno : PySem.W.findIn X.K (.ref C) fl = some none)
    (F1 : FnOk X.prog X.w X.K X.mg X.base (L2N.CX X.prog X.w) 1 fI fd ps (spX1 X.K C fl)) (hr : Room 2 X.A) (hb : Binds X.K fd ps []) (hgx : Gl X x) (hm : X.mg x = some (.ref C)) (ha : PA X [e] (tAs c G fs))
    (hdb : (x == ("__debug__" : Str)) = false := by decide) (he : starEach [e] X.env = (false, eval e X.env) :: starEach [] X.env := by rfl) :
    PS X (.Raise (some (.Call (.Name x p) [e] [] p')) none pos) (sD c L G G' (raiF n [fl] false fs)) :=
  ps_imp (L2N.ps_raise hc tk (L2N.pmk_oexN T iC tI F1 hr hb .nil L2N.passLN hgx hm ha hdb he rfl)) fun E σ H ⟨S0, H0, S, r, ok, q⟩ => st_seq hg ok q fun ds vs S1 H1 w1 o1 m1 p1 => by
    obtain ⟨hl, p1⟩ := p1.ite
    match ds, vs, m1, hl with
    | [d1], [v1], .cons hv .nil, _ =>
      refine ⟨by show 1 ≤ 1000; decide, fun a na => ⟨a, v1, rfl, T, hno, upd_same, fun d hd hne => ⟨rfl, d, [(fl, v1)], upd_same, by rw [upd_ne hne, upd_same], by rw [upd_ne hne] at hd; exact hd, ?_⟩⟩⟩
      rw [upd_ne hne] at hd
      rw [heap_x1 (C := C) (o4 := .lst []) na hne]
      exact p1 C d σ (upd S1 d (.xd [(fl, v1)])) _ [(fl, v1)] hcn (o1.fwd.trans (Fwd.both o1.ex hd)) (fun g hgg => by rw [hg g hgg]; exact o1.go (Fwd.both o1.ex hd)) upd_same rfl (.cons (hv.mono (Ex.new (o1.ex.nn hd))) .nil)
def unsetS (i : Nat) : SR → SR
  | .nx r => .nx (r.set i none)
  | .bk r => .bk (r.set i none)
  | .ct r => .ct (r.set i none)
  | .er _ _ _ _ => .bad
  | o => o
def tryF (isM : Str → Option Bool) (i : Nat) (Fb Fs : Rho → SR) : Rho → SR := fun r => match Fb r with
  | .er r' n ns vs => match isM n with
    | some true => unsetS i (Fs (r'.set i (some (.obj n ns vs))))
    | some false => .er r' n ns vs
    | none => .bad
  | o => o
theorem EnvOk.unset {S0 H0 S H : Hp} {σ : St} {r : Rho} (e : EnvOk c S0 H0 G S H σ r) (i : Nat) : EnvOk c S0 H0 (G.set i .v) S H (σ.set i none) (r.set i none) := by
  refine ⟨e.fwd, by simp [e.len], fun j d h => ?_, fun j k d d' p hj hk kj kk sj sk => ?_, let ⟨A, hA⟩ := e.sto; ⟨A, hA.sub (fun a ha => (hA.out a ha).1) (fun _ _ => rfl) Ex.refl (fun j d p hj kj sj => ?_) fun j d kj hj => ?_⟩⟩
  · rcases set_some h with ⟨_, z, _⟩ | ⟨ne, h⟩
    · cases z
    · obtain ⟨v, h1, h2⟩ := e.slot j d h
      exact ⟨v, by rw [List.getElem?_set_ne ne]; exact h1, by rw [kd_set_ne ne]; exact h2⟩
  · rcases set_some hj with ⟨_, z, _⟩ | ⟨nj, hj⟩
    · cases z
    · rcases set_some hk with ⟨_, z, _⟩ | ⟨nk, hk⟩
      · cases z
      · rw [kd_set_ne nj] at kj
        rw [kd_set_ne nk] at kk
        rw [List.getElem?_set_ne nj] at sj
        rw [List.getElem?_set_ne nk] at sk
        exact e.sep j k d d' p hj hk kj kk sj sk
  · rcases set_some hj with ⟨_, z, _⟩ | ⟨nj, hj⟩
    · cases z
    · rw [kd_set_ne nj] at kj
      rw [List.getElem?_set_ne nj] at sj
      exact hA.own j d p hj kj sj
  · rcases set_some hj with ⟨_, z, _⟩ | ⟨nj, hj⟩
    · cases z
    · rw [kd_set_ne nj, List.getElem?_set_ne nj]
      exact ⟨rfl, hj, rfl⟩
/-- the slot of a caught exception -/
theorem EnvOk.setX {c' : Cf} {S0 H0 S H : Hp} {σ : St} {r : Rho} {a C dd : Addr} {n : Str} {ns : List Str} {vs : List D} {fs : List (Str × V)} (e : EnvOk c S0 H0 G S H σ r) (hK : c'.K = c.K) (hcm : c'.cm = c.cm) (i : Nat) (hi : i < G.length) (h1 : c.cm n = some C) (h2 : S dd = some (.xd fs)) (h3 : ns = fs.map (·.1)) (h4 : RpA c.K c.cm S (fs.map (·.2)) vs) :
    EnvOk c' S0 H0 (G.set i (.x a C dd)) S H (σ.set i (some (.ref a))) (r.set i (some (.obj n ns vs))) := by
  have sl : ∀ k v d, SlotOk c H0 S H k v d → SlotOk c' H0 S H k v d := fun k v d h => by
    cases k with
    | v => unfold SlotOk at h ⊢; rw [hK, hcm]; exact h
    | o => unfold SlotOk at h ⊢; rw [hK, hcm]; exact h
    | b => unfold SlotOk at h ⊢; rw [hK, hcm]; exact h
    | s P => exact h
    | w => exact h
    | x a C dd => unfold SlotOk at h ⊢; rw [hK, hcm]; exact h
    | i a => unfold SlotOk at h ⊢; rw [hK, hcm]; exact h
    | j a0 fs0 => unfold SlotOk at h ⊢; rw [hcm]; exact h
  have sto' : ∃ A, StoOk c'.K c'.cm H0 (G.set i (.x a C dd)) S H (σ.set i (some (.ref a))) (r.set i (some (.obj n ns vs))) A := by
    obtain ⟨A, hA⟩ := e.sto
    rw [hK, hcm]
    refine ⟨A, hA.sub (fun a ha => (hA.out a ha).1) (fun _ _ => rfl) Ex.refl (fun j d p hj kj sj => ?_) fun j d kj hj => ?_⟩
    · have nj : i ≠ j := fun z => by subst z; rw [kd_set_o hi] at kj; cases kj
      rw [List.getElem?_set_ne nj] at hj sj
      rw [kd_set_ne nj] at kj
      exact hA.own j d p hj kj sj
    · have nj : i ≠ j := fun z => by subst z; rw [kd_set_o hi] at kj; rcases kj with ⟨_, kj⟩ | kj <;> cases kj
      rw [List.getElem?_set_ne nj] at hj
      rw [kd_set_ne nj, List.getElem?_set_ne nj]
      exact ⟨rfl, hj, rfl⟩
  refine ⟨e.fwd, by simp [e.len], fun j d h => ?_, fun j k d d' p hj hk kj kk sj sk => ?_, sto'⟩
  · rcases set_some h with ⟨rfl, z, hl⟩ | ⟨ne, h⟩
    · cases z
      refine ⟨.ref a, by rw [List.getElem?_set_self (by rw [e.len]; exact hl)], ?_⟩
      rw [kd_set_o hi]
      exact ⟨rfl, n, ns, vs, fs, rfl, by rw [hcm]; exact h1, h2, h3, by rw [hK, hcm]; exact h4⟩
    · obtain ⟨v, q1, q2⟩ := e.slot j d h
      exact ⟨v, by rw [List.getElem?_set_ne ne]; exact q1, by rw [kd_set_ne ne]; exact sl _ _ _ q2⟩
  · have nj : i ≠ j := fun z => by subst z; rw [kd_set_o hi] at kj; cases kj
    have nk : i ≠ k := fun z => by subst z; rw [kd_set_o hi] at kk; cases kk
    rw [List.getElem?_set_ne nj] at hj sj
    rw [List.getElem?_set_ne nk] at hk sk
    rw [kd_set_ne nj] at kj
    rw [kd_set_ne nk] at kk
    exact e.sep j k d d' p hj hk kj kk sj sk
/-- the kinds told ahead; what they are is the same whatever the wishes -/
theorem EnvOk.cf {c' : Cf} {S0 H0 S H : Hp} {σ : St} {r : Rho} (e : EnvOk c S0 H0 G S H σ r) (hK : c'.K = c.K) (hcm : c'.cm = c.cm) : EnvOk c' S0 H0 G S H σ r := by
  refine ⟨e.fwd, e.len, fun j d h => ?_, e.sep, by rw [hK, hcm]; exact e.sto⟩
  obtain ⟨v, q1, q2⟩ := e.slot j d h
  refine ⟨v, q1, ?_⟩
  cases kj : kd G j with
  | v => rw [kj] at q2; unfold SlotOk at q2 ⊢; rw [hK, hcm]; exact q2
  | o => rw [kj] at q2; unfold SlotOk at q2 ⊢; rw [hK, hcm]; exact q2
  | b => rw [kj] at q2; unfold SlotOk at q2 ⊢; rw [hK, hcm]; exact q2
  | s P => rw [kj] at q2; exact q2
  | w => rw [kj] at q2; exact q2
  | j a0 fs0 => rw [kj] at q2; unfold SlotOk at q2 ⊢; rw [hcm]; exact q2
  | x a C dd => rw [kj] at q2; unfold SlotOk at q2 ⊢; rw [hK, hcm]; exact q2
  | i a => rw [kj] at q2; unfold SlotOk at q2 ⊢; rw [hK, hcm]; exact q2
abbrev Cf.try (c : Cf) (W : WX) (G : List Ow) : Cf := ⟨c.K, c.cm, W, some G, c.rm⟩
theorem ds_try {nm xn : Str} {cv : Value} {i : Nat} {body suite : List Stmt} {b0 : Stmt} {np p1 : Pos} {isM : Str → Option Bool} {Fb Fs : Rho → SR} {Gs : List Ow} (hge : Gok c G) (hs : X.stack = X.env :: X.outer) (hf : X.env.frame = some X.env.locals) (hN : X.N.Nodup) (hi : X.N[i]? = some nm) (hln : X.env.kindOf nm = some .local) (hc : Names X xn cv) (tk : L2N.Takes X c.W)
    (hG : i < G.length) (hM : ∀ n C b, c.cm n = some C → isM n = some b → PySem.W.exmOne X.K (.ref C) cv = some b)
    (hb : ∀ (W : WX) (pn : List (Addr × Obj)) (xe : Value → Shared → Prop), L2N.Takes (X.tr pn xe) W → PassesOwn (model X.prog X.w) X.A X.env xe → PSs (X.tr pn xe) body (sD (c.try W G) L G G' Fb))
    (hsu : ∀ (a C dd : Addr) (oe : Obj) (pn : List (Addr × Obj)), (∃ n, c.cm n = some C ∧ isM n = some true) → L2N.Zn (.ref C) (some dd) oe → (∃ vs, oe.data = .fields vs) → PSs (X.suite a ((a, oe) :: pn)) (b0 :: suite) (sD c.calm (L.set i (.x a C dd)) (G.set i (.x a C dd)) (Gs.set i (.x a C dd)) Fs))
    (hGs : Gs.set i .v = G') (hL : L.set i .v = L) :
    PS X (.Try body [.ExceptHandler (some (.Name xn np)) (some nm) (b0 :: suite) p1] [] [] pos) (sD c L G G' (tryF isM i Fb Fs)) := by
  refine ps_imp (L2N.ps_try_as (tb := fun W => sD (c.try W G) L G G' Fb) (ts := fun a cls d => fun E σ H => ∃ C dd, cls = .ref C ∧ d = some dd ∧ (∃ n, c.cm n = some C ∧ isM n = some true) ∧ sD c.calm (L.set i (.x a C dd)) (G.set i (.x a C dd)) (Gs.set i (.x a C dd)) Fs E σ H) hs hf hN hi hln hc tk hb ?_) ?_
  · intro a oe cls d pn hz hff
    refine ⟨fun pins s σ H E I ⟨C, dd, hC, hd, hin, q⟩ => ?_⟩
    subst hC hd
    exact (hsu a C dd oe pn hin hz hff).run pins s σ H E I q
  · rintro E σ H ⟨S0, H0, S, r, ok, p⟩
    refine ⟨S0, H0, S, r, ok.cf rfl rfl, ?_⟩
    unfold tryF at p
    cases hF : Fb r with
    | nx r' => rw [hF] at p; exact fun σ' S' H' e => p σ' S' H' (e.cf rfl rfl)
    | rt d => rw [hF] at p; exact p
    | bk r' => rw [hF] at p; exact fun σ' S' H' e => p σ' S' H' (e.cf rfl rfl)
    | ct r' => rw [hF] at p; exact fun σ' S' H' e => p σ' S' H' (e.cf rfl rfl)
    | bad => rw [hF] at p; exact p.elim
    | er r' n ns vs =>
      rw [hF] at p
      intro C dd σ' S' H' fs h1 fw h2 h3 h4 h5
      have e1 : EnvOk (c.try _ G) S0 H0 G S' H' σ' r' := h2 G rfl
      dsimp only at p
      cases hI : isM n with
      | none => rw [hI] at p; exact p.elim
      | some b =>
        rw [hI] at p
        refine ⟨b, hM n C b h1 hI, fun hb1 a ha => ?_, fun hb0 => ?_⟩
        · subst hb1
          refine ⟨C, dd, rfl, rfl, ⟨n, h1, hI⟩, S0, H0, S', _, e1.setX (c' := c.calm) (a := a) rfl rfl i hG h1 h3 h4 h5, ?_⟩
          have p : PostS c S0 H0 L G' (unsetS i (Fs (r'.set i (some (.obj n ns vs))))) E := p
          cases hS : Fs (r'.set i (some (.obj n ns vs))) with
          | nx r2 =>
            rw [hS] at p
            intro σ2 S2 H2 e2
            have := (EnvOk.cf (c' := c) e2 rfl rfl).unset i
            rw [List.set_set, hGs] at this
            exact p _ S2 H2 this
          | rt d => rw [hS] at p; exact p
          | bk r2 =>
            rw [hS] at p
            intro σ2 S2 H2 e2
            have := (EnvOk.cf (c' := c) e2 rfl rfl).unset i
            rw [List.set_set, hL] at this
            exact p _ S2 H2 this
          | ct r2 =>
            rw [hS] at p
            intro σ2 S2 H2 e2
            have := (EnvOk.cf (c' := c) e2 rfl rfl).unset i
            rw [List.set_set, hL] at this
            exact p _ S2 H2 this
          | er _ _ _ _ => rw [hS] at p; exact p.elim
          | bad => rw [hS] at p; exact p.elim
        · subst hb0
          exact p C dd σ' S' H' fs h1 fw (fun g hg => by rw [hge g hg]; exact EnvOk.cf (c' := c) e1 rfl rfl) h3 h4 h5
def lookF (ns : List Str) (vs : List D) (f : Str) : Option D := (ns.zip vs).lookup f
def dXf (i : Nat) (f : Str) : Rho → Res D := fun r => match r[i]? with
  | some (some (.obj _ ns vs)) => match lookF ns vs f with
    | some d => .ok d
    | none => .bad
  | _ => .bad
theorem look_rp {K : PySem.W.Frag} {cm : CM} {S : Hp} {f : Str} {d : D} : ∀ {fs : List (Str × V)} {vs : List D}, RpA K cm S (fs.map (·.2)) vs → lookF (fs.map (·.1)) vs f = some d → ∃ v, fs.lookup f = some v ∧ Rp K cm S v d
  | [], vs, h, q => by cases h; cases q
  | (g, u) :: fs, _, h, q => by
    cases h with | @cons _ _ d' ds hu hr =>
    unfold lookF at q
    rw [List.map_cons, List.zip_cons_cons, List.lookup_cons] at q
    rw [List.lookup_cons]
    by_cases hfg : (f == g) = true
    · rw [hfg] at q ⊢; cases q; exact ⟨u, rfl, hu⟩
    · have : (f == g) = false := by simpa using hfg
      rw [this] at q ⊢
      exact look_rp hr q
/-- isinstance(e, c), e the exception that the suite holds -/
def rIsX (K : PySem.W.Frag) (C a dd : Addr) : List V → Hp → VK → Prop := fun xs H Q => ∃ (c : V) (cv : Value) (b : Bool) (fs : List (Str × V)), xs = [.ref a, c] ∧ (∀ u, RelV c u → u = cv) ∧ H dd = some (.xd fs) ∧ PySem.W.kitOne K (.ref C) cv = some b ∧ Q (.bl b) H
/-- isM: which of the classes that are caught are of this class -/
def dIsX (isM : Str → Option Bool) (i : Nat) : Rho → Res D := fun r => match r[i]? with
  | some (some (.obj n _ _)) => match isM n with
    | some b => .ok (.bl b)
    | none => .bad
  | _ => .bad
end
end Dx
end S_DxG
section S_DxT
set_option Elab.async false
set_option linter.all false
set_option maxRecDepth 100000
set_option maxHeartbeats 2000000
namespace Dx
open PySem L2
theorem gok0 {K : PySem.W.Frag} {cm : CM} {rm : Bool} {E : XK} {G : List Ow} : Gok (cfE K cm rm E) G := fun _ h => nomatch h
theorem gokC {c : Cf} {G : List Ow} : Gok c.calm G := fun _ h => nomatch h
theorem gokT {c : Cf} {W : WX} {G : List Ow} : Gok (c.try W G) G := fun _ h => (Option.some.inj h).symm
theorem hu65 {k : Nat} {A : Around} (hr : Room k A) : A.units + 65 < cLine := by have := hr.un; omega
theorem fnok_bad {P : Program} {w : World} {K : PySem.W.Frag} {mg : Str → Option Value} {base : Heap} {CX : CXT} {k : Nat} {f : Addr} {fd : FuncData} {ps : List Str} {cm : CM} {ms : List Bool} {rm : Bool} : FnOk P w K mg base CX k f fd ps (spD K cm ms rm fun _ => .bad) :=
  ⟨fun _ _ _ _ ⟨_, _, _, _, h⟩ => h.elim, fun _ _ _ _ _ _ _ _ _ _ _ _ _ ⟨_, _, _, _, h⟩ => h.elim⟩
theorem ints_rp {K : PySem.W.Frag} {cm : CM} {S : Hp} : ∀ ns : List Int, RpA K cm S (ns.map V.int) (ns.map D.int)
  | [] => .nil
  | n :: ns => .cons (.int n) (ints_rp ns)
theorem law_sp {K : PySem.W.Frag} {cm : CM} {F : List D → Res D} {ns : List Int} {H : Hp} {a : Addr} {Q : VK} {E : XK} (h : F [.fz (ns.map D.int)] = .ok (.bl true)) (hS : SqL K H a (ns.map V.int)) (k : ∀ H', Q (.bl true) H') : spD K cm [false] false F [.ref a] H Q E :=
  ⟨H, [.fz (ns.map D.int)], Ex.refl, ⟨.fz hS (ints_rp ns), trivial⟩, by
    rw [h]
    intro S' H' w b hb
    cases hb
    exact k H'⟩
theorem cx_never {P : Program} {w : World} {outer : List Env} {H : Hp} {s s' : Shared} {e : Value} (h : L2N.CX P w outer H s (fun _ _ _ => False) e s') : False := by
  obtain ⟨_, _, _, _, _, _, _, _, _, _, _, _, hf⟩ := h
  exact hf
section
variable {X : Cx} {c : Cf} {L G G' : List Ow} {f f1 f2 : Rho → Res D} {o e : Expr} {pos apos : Pos}
def asS : D → Res Str
  | .str s => .ok s
  | _ => .bad
def MtS (c : Cf) (R : Md V D) (r : V → List V → Hp → VK → Prop) (g : D → D → Res D) : Prop := ∀ (σ : St) (S H : Hp) (x y : V) (d e : D) (Q : VK), Ex S H → RpB c.K c.cm S H x d → RpB c.K c.cm S H y e →
  PostG c σ S H (g d e) (fun a S' H' => ∀ b, R H S' H' b a → Q b H') → r x [y] H Q
def dStr (g : D → D → Res D) (f1 f2 : Rho → Res D) : Rho → Res D := fun r => (f1 r).bind fun x => (asS x).bind fun _ => (f2 r).bind fun y => g x y
theorem de_m1 {R : Md V D} [Anti R] {id : String} {name : Str} {r : V → List V → Hp → VK → Prop} {g : D → D → Res D} (slot : Slot "str" name id) (ty : typeOf (.builtin id) = pure (.type "method_descriptor")) (rule : MtR X id r) (hs : MtS c R r g) (ho : PE X o (tR c G f1)) (he : PE X e (tR c G f2))
    (hst : starEach [e] X.env = [(false, eval e X.env)] := by rfl) (hbase : attributeBase o name X.env (eval o X.env) = eval o X.env := by rfl) (hline : (apos.endLine == pos.line) = true := by rfl) :
    PE X (.Call (.Attribute o name apos) [e] [] pos) (rd c G (dStr g f1 f2) R) := pe_imp (pe_m1 slot ty rule ho he hst hbase hline) fun σ H Q ⟨S0, H0, S, r, ok, p⟩ => rd_seq ok p fun x v S1 H1 w1 o1 m1 p1 => by
  cases x with
  | str z =>
    have hv := RpB.str m1
    exact ⟨⟨z, hv⟩, rd_seq o1 (show PostG c σ S1 H1 ((f2 r).bind fun y => g (.str z) y) _ from p1) fun y u S2 H2 w2 o2 m2 p2 => hs σ S2 H2 v u (.str z) y Q o2.ex (RpB.mono m1 w2.s w2.h) m2 (p2.anti (w1.h.trans w2.h))⟩
  | _ => exact p1.elim
def strsD (zs : List Str) : List D := zs.map .str
noncomputable def splitD : D → D → Res D
  | .str a, .str b => guard ((b.length == 0) = false ∧ a.length + 2 ≤ sizeLine) (.ok (.lst (strsD (Txt.split a b))))
  | _, _ => .bad
def startD : D → D → Res D
  | .str a, .str b => .ok (.bl (Txt.startswith a b))
  | _, _ => .bad
def endD : D → D → Res D
  | .str a, .str b => .ok (.bl (Txt.endswith a b))
  | _, _ => .bad
/-- the texts of a list or a tuple -/
def allStr : List D → Option (List Str)
  | [] => some []
  | .str z :: ds => (allStr ds).map (z :: ·)
  | _ :: _ => none
theorem allStr_rp {K : PySem.W.Frag} {cm : CM} {S : Hp} : ∀ {ds : List D} {vs : List V} {zs : List Str}, RpA K cm S vs ds → allStr ds = some zs → vs = zs.map V.str
  | [], _, _, h, q => by cases h; cases q; rfl
  | d :: ds, _, _, h, q => by
    cases h with | cons hd hr =>
    cases d with
    | str z =>
      rw [allStr] at q
      obtain ⟨zs, h1, rfl⟩ := Option.map_eq_some_iff.mp q
      cases hd
      rw [allStr_rp hr h1]; rfl
    | _ => cases q
noncomputable def joinZ (a : Str) : Option (List Str) → Res D
  | some zs => guard ((zs.map (·.length)).sum + zs.length * a.length ≤ 16777216) (.ok (.str (Txt.join a zs)))
  | none => .bad
noncomputable def joinD : D → D → Res D
  | .str a, d => (items d).bind fun ds => joinZ a (allStr ds)
  | _, _ => .bad
theorem ms_join (hK : c.K = X.K := by rfl) : MtS c (mV c) (fun x xs H Q => ∃ a p, ∃ ys : List Str, x = .str a ∧ xs = [.ref p] ∧ (SqL X.K H p (ys.map V.str) ∨ SqT X.K H p (ys.map V.str)) ∧
    (ys.map (·.length)).sum + ys.length * a.length ≤ 16777216 ∧ Q (.str (Txt.join a ys)) H) joinD := by
  intro σ S H x y d e Q ex hx hy p
  cases d with
  | str a =>
    cases hx.str
    have fin : ∀ ds, items e = .ok ds → ∃ zs, allStr ds = some zs ∧ (zs.map (·.length)).sum + zs.length * a.length ≤ 16777216 ∧ Q (.str (Txt.join a zs)) H := fun ds hds => by
      replace p : PostG c σ S H ((items e).bind fun ds => joinZ a (allStr ds)) (fun a S' H' => ∀ b, mV c H S' H' b a → Q b H') := p
      rw [hds] at p
      replace p : PostG c σ S H (joinZ a (allStr ds)) (fun a S' H' => ∀ b, mV c H S' H' b a → Q b H') := p
      cases hz : allStr ds with
      | none => rw [hz] at p; exact p.elim
      | some zs =>
        rw [hz] at p
        obtain ⟨hl, p⟩ := p.gd
        exact ⟨zs, rfl, hl, p.here ex (.str _)⟩
    rw [← hK]
    cases e with
    | lst ds =>
      obtain ⟨q, xs, rfl, a1, r1⟩ := hy.list ex
      obtain ⟨zs, h1, h2, h3⟩ := fin ds rfl
      have := allStr_rp r1 h1; subst this
      exact ⟨a, q, zs, rfl, rfl, .inl (.inl (.inl a1)), h2, h3⟩
    | fz ds =>
      obtain ⟨q, xs, rfl, a1, r1⟩ := hy.fz ex
      obtain ⟨zs, h1, h2, h3⟩ := fin ds rfl
      have := allStr_rp r1 h1; subst this
      exact ⟨a, q, zs, rfl, rfl, .inl a1, h2, h3⟩
    | tup ds =>
      obtain ⟨q, xs, rfl, a1, r1, s1⟩ := hy.tup ex
      obtain ⟨zs, h1, h2, h3⟩ := fin ds rfl
      have := allStr_rp r1 h1; subst this
      exact ⟨a, q, zs, rfl, rfl, .inr a1, h2, h3⟩
    | _ => exact p.elim
  | _ => exact p.elim
noncomputable def ordX : D → Res D
  | .str x => guard (x.length = 1) (.ok (.int (x.cps.getD 0 0 : Nat)))
  | _ => .bad
noncomputable def fmtD : D → Res D
  | .str y => guard (y.length ≤ sizeLine) (.ok (.str y))
  | .int i => guard (i.natAbs.log2 < 1920) (.ok (.str (toString i)))
  | _ => .bad
def dJnil : Str → Rho → Res D := fun acc _ => .ok (.str acc)
noncomputable def dJcons (f : Rho → Res D) (g : Str → Rho → Res D) : Str → Rho → Res D := fun acc r => (f r).bind fun d => (asS d).bind fun y => guard ((acc ++ y).length ≤ sizeLine) (g (acc ++ y) r)
def dJoin (g : Str → Rho → Res D) : Rho → Res D := g Str.empty
noncomputable def truB : D → Res Bool
  | .non => .ok false
  | .bl b => .ok b
  | .int i => .ok (i != 0)
  | .str y => guard (y.length ≤ sizeLine) (.ok ((y.length : Int) != 0))
  | .lst ds => .ok (!ds.isEmpty)
  | .fz ds => .ok (!ds.isEmpty)
  | .tup ds => .ok (!ds.isEmpty)
  | _ => .bad
noncomputable def dTru (f : Rho → Res D) : Rho → Res Bool := fun r => (f r).bind truB
theorem RpA.empty {K : PySem.W.Frag} {cm : CM} {S : Hp} {vs : List V} {ds : List D} (h : RpA K cm S vs ds) : (!ds.isEmpty) = !vs.isEmpty := by cases h <;> rfl
def augF (i : Nat) (g : D → D → Res D) (f : Rho → Res D) : Rho → SR := fun r => liftS r (dVar i r) fun x => liftS r (f r) fun y => liftS r (g x y) fun z => .nx (r.set i (some z))
end
end Dx
end S_DxT
section S_DxS
set_option Elab.async false
set_option linter.all false
set_option maxRecDepth 100000
set_option maxHeartbeats 2000000
namespace Dx
open PySem L2
/-- new own lists that stand in each other -/
def mG (c : Cf) : Md V D := fun H S' H' v d => ∃ k M A, d = .st k M ∧ A.Nodup ∧ A.length = M.length ∧ (∃ a, A[k]? = some a ∧ v = .ref a) ∧ (∀ a ∈ A, H a = none ∧ S' a = none) ∧
  ∀ (n : Nat) row, M[n]? = some row → ∃ a xs, A[n]? = some a ∧ H' a = some (.lst xs) ∧ RmA c.K c.cm A S' xs row
instance {c : Cf} : Anti (mG c) := ⟨fun e ⟨k, M, A, h1, h2, h3, h4, h5, h6⟩ => ⟨k, M, A, h1, h2, h3, h4, fun a ha => ⟨e.nn (h5 a ha).1, (h5 a ha).2⟩, h6⟩⟩
section
variable {X : Cx} {c : Cf} {L G G' : List Ow} {σ : St} {S0 H0 S H S' H' : Hp} {r : Rho}
variable {e : Expr} {pos : Pos} {f : Rho → Res D}
def isOwn : D → Bool
  | .own _ => true
  | .st _ _ => true
  | _ => false
theorem RmA.plain {A : List Addr} {xs : List V} {row : List D} (h : RmA c.K c.cm A S xs row) (hp : row.all (fun d => !isOwn d) = true) : RpA c.K c.cm S xs row := by
  obtain ⟨hl, h⟩ := h
  induction row generalizing xs with
  | nil =>
    cases xs with
    | nil => exact .nil
    | cons _ _ => cases hl
  | cons d row ih =>
    cases xs with
    | nil => cases hl
    | cons v xs =>
      rw [List.all_cons, Bool.and_eq_true] at hp
      refine .cons ?_ (ih hp.2 (by simpa using hl) fun i v d hv hd => h (i + 1) v d (by simpa using hv) (by simpa using hd))
      rcases h 0 v d rfl rfl with z | ⟨k, a, rfl, _⟩
      · exact z
      · cases hp.1
theorem RmA.atI {A : List Addr} {xs : List V} {row : List D} {j : Int} {d : D} (h : RmA c.K c.cm A S xs row) (q : L2.atI row j = some d) : ∃ v, L2.atI xs j = some v ∧ RmV c.K c.cm A S v d := by
  unfold L2.atI at q ⊢
  rw [h.1]
  cases hj : ixN row.length j with
  | none => rw [hj] at q; cases q
  | some n =>
    rw [hj] at q
    have q : row[n]? = some d := q
    have hlt : n < xs.length := by rw [h.1]; exact (List.getElem?_eq_some_iff.mp q).1
    exact ⟨xs[n], List.getElem?_eq_getElem hlt, h.2 n _ d (List.getElem?_eq_getElem hlt) q⟩
theorem RmA.set {A : List Addr} {xs : List V} {row : List D} {v : V} {d : D} (h : RmA c.K c.cm A S xs row) (hv : Rp c.K c.cm S v d) (n : Nat) : RmA c.K c.cm A S (xs.set n v) (row.set n d) := by
  refine ⟨by rw [List.length_set, List.length_set]; exact h.1, fun i u e hu he => ?_⟩
  rw [List.getElem?_set] at hu he
  split at hu
  · rename_i hni
    rw [if_pos hni] at he
    split at hu
    · cases hu
      split at he
      · cases he; exact .inl hv
      · cases he
    · cases hu
  · rename_i hni
    rw [if_neg hni] at he
    exact h.2 i u e hu he
end
end Dx
end S_DxS
section S_DxU
set_option Elab.async false
set_option linter.all false
set_option maxRecDepth 100000
set_option maxHeartbeats 2000000
namespace Dx
open PySem L2
def optL (g : D → Option D) : List D → Option (List D)
  | [] => some []
  | d :: ds => match g d, optL g ds with
    | some e, some es => some (e :: es)
    | _, _ => none
def derefD : Nat → List (List D) → D → Option D
  | _, _, .st _ _ => none
  | 0, _, .own _ => none
  | n + 1, M, .own k => match M[k]? with
    | some row => match optL (derefD n M) row with
      | some ds => some (.lst ds)
      | none => none
    | none => none
  | _, _, d => some d
section
variable {X : Cx} {c : Cf} {L G G' : List Ow} {σ : St} {S0 H0 S H S' H' : Hp} {r : Rho}
/-- all the own lists of slot i become values; the slots ws, that hold some of them, are given up -/
def pubF (n i : Nat) (ws : List Nat) : Rho → SR := fun r => match r[i]? with
  | some (some (.st k M)) => match derefD n M (.own k) with
    | some d => .nx ((wipeR r ws).set i (some d))
    | none => .bad
  | _ => .bad
end
end Dx
end S_DxU
section S_DxV
set_option Elab.async false
set_option linter.all false
set_option maxRecDepth 100000
set_option maxHeartbeats 2000000
namespace Dx
open PySem L2
/-- each item with its number -/
def numd : Nat → List D → List D
  | _, [] => []
  | n, d :: ds => .tup [.int (n : Int), d] :: numd (n + 1) ds
theorem numd_get : ∀ (ds : List D) (n i : Nat) (d : D), ds[i]? = some d → (numd n ds)[i]? = some (.tup [.int ((n + i : Nat) : Int), d])
  | [], _, _, _, h => by simp at h
  | d :: ds, n, 0, e, h => by simp at h; subst h; simp [numd]
  | d :: ds, n, i + 1, e, h => by
    have := numd_get ds (n + 1) i e (by simpa using h)
    rw [numd, List.getElem?_cons_succ, this, show n + 1 + i = n + (i + 1) by omega]
section
variable {X : Cx} {c : Cf} {G : List Ow} {f : Rho → Res D} {e : Expr} {pos : Pos}
theorem YOk.num {S : Hp} {xs : List V} {ds : List D} (rr : RpA c.K c.cm S xs ds) : YOk c S (numd 0 ds) (YPair (fun i => some (.int (i : Nat))) (fun i => xs[i]?)) := by
  intro i S1 H1 x H2 hi e1 e2 y
  obtain ⟨T, a, b, rfl, h1, rfl, h2, h3⟩ := y
  cases h2
  obtain ⟨d, g1, g2⟩ := rr.getV h3
  refine ⟨upd S1 T (.tup [.int (i : Nat), b]), .tup [.int ((0 + i : Nat) : Int), d], Fwd.both e2 h1, numd_get ds 0 i d g1, ?_⟩
  rw [Nat.zero_add]
  have ex : Ex S1 (upd S1 T (.tup [.int (i : Nat), b])) := Ex.new (e2.nn h1)
  exact .tup upd_same (.cons (.int _) (.cons ((g2.mono e1).mono ex) .nil))
def itemsF (d : D) : Res (List D) := match d with
  | .lst ds => .ok ds
  | .fz ds => .ok ds
  | _ => .bad
def enumL (d : D) : Res (List D) := (itemsF d).bind fun ds => .ok (numd 0 ds)
def enumT (d : D) : Res (List D) := (itemsT d).bind fun ds => .ok (numd 0 ds)
end
end Dx
end S_DxV
section S_DxW
set_option Elab.async false
set_option linter.all false
set_option maxRecDepth 100000
set_option maxHeartbeats 2000000
namespace Dx
open PySem L2 PyProof.Rows
end Dx
end S_DxW
section S_DxX
set_option Elab.async false
set_option linter.all false
set_option maxRecDepth 100000
set_option maxHeartbeats 2000000
namespace Dx
open PySem L2
section
variable {X : Cx} {c : Cf} {L G G' : List Ow} {f f1 f2 : Rho → Res D} {a b e : Expr} {pos : Pos} {tg : Expr}
noncomputable def powD : D → D → Res D
  | .int i, .int j => guard (0 ≤ j ∧ j ≤ 1000000 ∧ i.natAbs < 18446744073709551616) (.ok (.int (i ^ j.toNat)))
  | _, _ => .bad
theorem os_pow : OpS c (mV c) (rI CPow fun i j => .int (i ^ j.toNat)) powD := by
  intro σ S H x y d e Q ex hx hy p
  unfold powD at p
  split at p
  · obtain ⟨h, p⟩ := p.gd
    cases hx.int
    cases hy.int
    exact ⟨_, _, rfl, rfl, ⟨h.1, h.2.1, by have := h.2.2; omega⟩, p.here ex (.int _)⟩
  · exact p.elim
/-- sum of a list of ints -/
def allInt : List D → Option (List Int)
  | [] => some []
  | .int i :: ds => match allInt ds with
    | some is => some (i :: is)
    | none => none
  | _ => none
def sumD : D → Res D
  | .lst ds => match allInt ds with
    | some is => .ok (.int is.sum)
    | none => .bad
  | _ => .bad
theorem RpA.ints {S : Hp} : ∀ {vs : List V} {ds : List D} {is : List Int}, RpA c.K c.cm S vs ds → allInt ds = some is → vs = is.map V.int
  | _, [], _, h, q => by cases h; cases q; rfl
  | _, d :: ds, is, h, q => by
    cases h with
    | cons h1 h2 =>
      unfold allInt at q
      cases d with
      | int i =>
        dsimp only at q
        split at q
        · rename_i js hj
          cases q
          cases h1
          rw [RpA.ints h2 hj]; rfl
        · cases q
      | _ => cases q
theorem cs_sum : CallS c (mV c) (rSum c.K) [true] (g1 sumD) := by
  intro σ S H vs ds Q ex m p
  obtain ⟨v, d, rfl, rfl, h⟩ := m.one
  cases d with
  | lst ds =>
    obtain ⟨q, xs, rfl, a1, r1⟩ := h.list ex
    replace p : PostG c σ S H (match allInt ds with | some is => Res.ok (D.int is.sum) | none => .bad) (fun a S' H' => ∀ b, mV c H S' H' b a → Q b H') := p
    split at p
    · rename_i is hi
      refine ⟨q, is, rfl, .inl (.inl ?_), p.here ex (.int _)⟩
      rw [← r1.ints hi]; exact a1
    · exact p.elim
  | _ => exact p.elim
theorem RpA.dropLast {S : Hp} {vs : List V} {ds : List D} (h : RpA c.K c.cm S vs ds) : RpA c.K c.cm S vs.dropLast ds.dropLast := by
  rw [List.dropLast_eq_take, List.dropLast_eq_take, h.length]
  exact h.take _
end
end Dx
end S_DxX
section S_DxY
set_option Elab.async false
set_option linter.all false
set_option maxRecDepth 100000
set_option maxHeartbeats 2000000
namespace Dx
open PySem L2
section
variable {X : Cx} {CX : CXT} {k : Nat} {f C : Addr} {fd : FuncData} {ps : List Str} {sp : Sp} {E : St → XK} {x m : Str} {p pos apos : Pos} {e o : Expr} {es : List Expr} {ta : TE} {t : TA}
def tMethSD (C : Addr) (m : Str) (sp : Sp) (E : St → XK) (ta : TE) (t : TA) : TE := fun σ H Q => ta σ H fun x H1 => ∃ a dx fs, x = .ref a ∧ H1 a = some (.ins C dx fs) ∧ fs.lookup m = none ∧
  t σ H1 fun vs H2 => sp (x :: vs) H2 Q (E σ)
theorem pe_methSD {pl : Sem Bool} (he : PE X o ta) (c : Cls X.K C) (hm : Meth X.K C m f) (F : FnOk X.prog X.w X.K X.mg X.base CX k f fd ps sp) (hr : Room k X.A) (hb : L2.Binds X.K fd ps []) (hx : ∀ σ, PassesAt CX X σ (E σ)) (ha : PA X (e :: es) t)
    (hst : starEach (e :: es) X.env = (false, eval e X.env) :: starEach es X.env := by rfl) (hpl : (backTo pos (starEach es X.env)).any (·.1) = false := by rfl)
    (ht : eval (.Call (.Attribute o m apos) (e :: es) [] pos) X.env = (do
      let ov ← eval o X.env
      standAt apos.atName
      let (f, first) ← holding [ov] (getMethod ov m pl)
      callWith pos f first (backTo pos (starEach (e :: es) X.env)) (backToKw pos (keywordEach [] X.env))) := by rfl) :
    PE X (.Call (.Attribute o m apos) (e :: es) [] pos) (tMethSD C m sp E ta t) := by
  refine ⟨fun pins s σ H Q I h => ?_⟩
  refine PySem.W.methodCall_KW (pl := pl) (thn (he.run pins s σ H _ I h) fun u s1 ⟨x, H1, I1, rx, a, dx, fs, ex, ea, l, q⟩ => ?_) ht
  subst ex
  obtain rfl : u = Value.ref a := rx
  refine getmeth_ok I1 ea c hm l ?_
  refine PySem.W.callWith_K (first := [.ref a]) (h₀ := X.base) I.ok.mod.kin hm.kp (thn (ha.run pos pins s1 σ H1 _ I1 q) fun us s2 ⟨vs, H2, I2, r, q2⟩ => ⟨I2.kIn, ?_⟩) hst hpl
  exact run_fnSD (dvs := []) (us := .ref a :: us) (vs := .ref a :: vs) F hr hb .nil (hx σ) I2 (.cons rfl r) (by rw [List.append_nil]; exact q2)
def tMakeSD (C : Addr) (sp : Sp) (dvs : List V) (E : St → XK) (t : TA) : TE := fun σ H Q => t σ H fun vs H1 => ∀ x dx, H1 x = none → H1 dx = none → dx ≠ x →
  sp (.ref x :: (vs ++ dvs)) (upd (upd H1 dx (.own x)) x (.ins C dx [])) (fun v H2 => v = .non ∧ Q (.ref x) H2) (E σ)
variable {dvs : List V} {ds : List Value}
theorem run_makeSD {pins : List (Addr × Obj)} {σ : St} {H : Hp} {s : Shared} {Q : VK} {us : List Value} {vs : List V} (M : Mk X.K C f) (F : FnOk X.prog X.w X.K X.mg X.base CX k f fd ps sp) (hr : Room (k + 1) X.A) (hb : L2.Binds X.K fd ps ds) (hd : Vals dvs ds)
    (hx : PassesAt CX X σ (E σ)) (I : Inv X pins σ H s) (r : Vals vs us)
    (h : ∀ x dx, H x = none → H dx = none → dx ≠ x → sp (.ref x :: (vs ++ dvs)) (upd (upd H dx (.own x)) x (.ins C dx [])) (fun v H2 => v = .non ∧ Q (.ref x) H2) (E σ)) :
    wpAny (model X.prog X.w) X.A (call (.ref C) us) (EP X pins σ Q) X.xe s := by
  have hq := h (s.heap.objs.size + 1) s.heap.objs.size (I.hok.fresh (Nat.le_succ _)) (I.hok.fresh (Nat.le_refl _)) (Nat.ne_of_lt (Nat.lt_succ_self _))
  have I2 := Inv.made (C := C) I
  have r2 : Vals (V.ref (s.heap.objs.size + 1) :: (vs ++ dvs)) (Value.ref (s.heap.objs.size + 1) :: (us ++ ds)) := .cons rfl (r.append hd)
  have hl : (Value.ref (s.heap.objs.size + 1) :: us ++ ds).length = ps.length := by
    have e := r2.length
    rw [F.len _ _ _ _ hq] at e
    exact e.symm
  refine wpAny_call (make_map (f := f) I.kIn M.makes M.init (beq_iff_eq.mp M.fn) (codeAny_mono (F.run _ X.stack _ _ ⟨Value.ref (s.heap.objs.size + 1) :: us, []⟩ (Value.ref (s.heap.objs.size + 1) :: (us ++ ds)) _ _ (E σ) (hr.make C us [])
    (I2.env0.make C us []) (hb _ (Value.ref (s.heap.objs.size + 1) :: us) I2.kIn hl) r2 hq) fun r s' hq' => ?_))
  cases r with
  | error e => exact hx pins _ _ e s' I2 hq'
  | ok fl =>
    cases fl with
    | ret u =>
      obtain ⟨v, H', I3, rv, ev, q3⟩ := I2.after hq'
      subst ev
      exact ⟨rv, ⟨V.ref (s.heap.objs.size + 1), H', I3, rfl, q3⟩⟩
    | next => exact False.elim hq'
    | brk => exact False.elim hq'
    | cont => exact False.elim hq'
theorem pe_makeSD (M : Mk X.K C f) (F : FnOk X.prog X.w X.K X.mg X.base CX k f fd ps sp) (hr : Room (k + 1) X.A) (hg : Gl X x) (hm : X.mg x = some (.ref C)) (hb : L2.Binds X.K fd ps ds) (hd : Vals dvs ds) (hx : ∀ σ, PassesAt CX X σ (E σ))
    (ha : PA X (e :: es) t) (hdb : (x == ("__debug__" : Str)) = false := by decide) (he : starEach (e :: es) X.env = (false, eval e X.env) :: starEach es X.env := by rfl) (hpl : (backTo pos (starEach es X.env)).any (·.1) = false := by rfl) :
    PE X (.Call (.Name x p) (e :: es) [] pos) (tMakeSD C sp dvs E t) := by
  refine ⟨fun pins s σ H Q I h => ?_⟩
  refine wpAny_Call_Name_kw (ld_glob I hg hm ?_ hdb)
  refine PySem.W.callWith_K (h₀ := X.base) I.ok.mod.kin M.kp (thn (ha.run pos pins s σ H _ I h) fun us s1 ⟨vs, H1, I1, r, q⟩ => ⟨I1.kIn, ?_⟩) he hpl
  exact run_makeSD M F hr hb hd (hx σ) I1 r q
end
section
variable {X : Cx} {c : Cf} {L G G' : List Ow} {f f1 : Rho → Res D} {e o : Expr} {es : List Expr} {pos apos p : Pos} {fs : Rho → Res (List D)}
/-- of an object of the class n, its field fl -/
def fldD (n fl : Str) : D → Res D
  | .obj c ns vs => if c = n then (match lookF ns vs fl with
    | some d => .ok d
    | none => .bad) else .bad
  | _ => .bad
theorem de_fld {n fl : Str} {C : Addr} (hcn : c.cm n = some C) (cl : Cls X.K C) (na : NoAttr X.K C fl) (he : PE X e (tR c G f)) (hb : attributeBase e fl X.env (eval e X.env) = eval e X.env := by rfl) :
    PE X (.Attribute e fl pos) (tV c G (dUn (fldD n fl) f)) := pe_imp (pe_fld he hb) fun σ H Q ⟨S0, H0, S, r, ok, p⟩ => rd_seq ok p fun d v S1 H1 w1 o1 m1 p1 => by
  cases d with
  | obj c' ns vs =>
    unfold fldD at p1
    dsimp only at p1
    split at p1
    · rename_i hc
      subst hc
      split at p1
      · rename_i d' hd
        obtain ⟨q, C', dx, fs, rfl, h1, h2, rfl, h4⟩ := RpB.obj m1 o1.ex
        rw [hcn] at h1; cases h1
        obtain ⟨v', hv, hr⟩ := look_rp h4 hd
        exact ⟨q, C, dx, fs, v', rfl, h2, cl, na, hv, p1.go o1.ex _ hr⟩
      · exact p1.elim
    · exact p1.elim
  | _ => exact p1.elim
/-- the own object in slot i gets a field -/
def putN (fl : Str) (d : D) : List Str → List D → List Str × List D
  | n :: ns, v :: vs => if n = fl then (n :: ns, d :: vs) else let z := putN fl d ns vs; (n :: z.1, v :: z.2)
  | ns, vs => (ns ++ [fl], vs ++ [d])
theorem putN_rp {K : PySem.W.Frag} {cm : CM} {S : Hp} {fl : Str} {d : D} {v : V} (hv : Rp K cm S v d) : ∀ {fs : List (Str × V)} {vs : List D}, RpA K cm S (fs.map (·.2)) vs →
    (putN fl d (fs.map (·.1)) vs).1 = (putF fl v fs).map (·.1) ∧ RpA K cm S ((putF fl v fs).map (·.2)) (putN fl d (fs.map (·.1)) vs).2
  | [], vs, h => by
    cases h
    refine ⟨rfl, ?_⟩
    show RpA K cm S [v] [d]
    exact .one hv
  | (n, u) :: fs, _, h => by
    cases h with | @cons _ _ d' ds' h1 h2 =>
    obtain ⟨z1, z2⟩ := putN_rp hv h2
    by_cases hn : n = fl
    · subst hn
      have e1 : putF n v ((n, u) :: fs) = (n, v) :: fs := by unfold putF; simp
      have e2 : putN n d (((n, u) :: fs).map (·.1)) (d' :: ds') = (n :: fs.map (·.1), d :: ds') := by
        show putN n d (n :: fs.map (·.1)) (d' :: ds') = _
        unfold putN; simp
      rw [e1, e2]
      exact ⟨rfl, .cons hv h2⟩
    · have e1 : putF fl v ((n, u) :: fs) = (n, u) :: putF fl v fs := by
        conv => lhs; unfold putF
        simp [hn, Ne.symm hn]
      have e2 : putN fl d (((n, u) :: fs).map (·.1)) (d' :: ds') = (n :: (putN fl d (fs.map (·.1)) ds').1, d' :: (putN fl d (fs.map (·.1)) ds').2) := by
        show putN fl d (n :: fs.map (·.1)) (d' :: ds') = _
        conv => lhs; unfold putN
        simp [hn]
      rw [e1, e2]
      exact ⟨by simp [z1], .cons h1 z2⟩
def fstF (i : Nat) (n fl : Str) (f : Rho → Res D) : Rho → SR := fun r => liftS r (f r) fun d => match r[i]? with
  | some (some (.obj c ns vs)) => if c = n ∧ ns.length < 1000 then .nx (r.set i (some (.obj c (putN fl d ns vs).1 (putN fl d ns vs).2))) else .bad
  | _ => .bad
theorem ds_fst (i : Nat) {n fl x : Str} {C : Addr} {pn pos' : Pos} (hg : Gok c G) (hcn : c.cm n = some C) (cl : Cls X.K C) (na : NoAttr X.K C fl) (k : isO (kd G i)) (ho : PE X (.Name x pn) (tVar i)) (he : PE X e (tV c G f))
    (hs : swapsWith e (some (.Attribute (.Name x pn) fl pos')) pos.line X.env = pure false := by rfl) : PS X (.Assign [.Attribute (.Name x pn) fl pos'] e pos) (sD c L G G (fstF i n fl f)) :=
  ps_imp (ps_fld ho he hs) fun E σ H ⟨S0, H0, S, r, ok, p⟩ => st_seq hg ok p fun d v S1 H1 w1 o1 m1 p1 => by
    split at p1
    · rename_i c' ns vs hr
      split at p1
      · rename_i hc
        obtain ⟨rfl, hl⟩ := hc
        obtain ⟨q, ho', s1, s2, s3, s4, s5⟩ := o1.ownI k hr
        cases s5 with | @obj C' dx _ fs _ _ h1 h2 h3 =>
        rw [hcn] at h1; cases h1
        subst h2
        obtain ⟨z1, z2⟩ := putN_rp (fl := fl) m1 h3
        refine ⟨.ref q, s1, q, C, dx, fs, rfl, s2, cl, na, by simpa using hl, p1 σ S1 _ ?_⟩
        exact o1.mutI k hr s1 (.obj hcn z1 z2)
      · exact p1.elim
    · exact p1.elim
variable {k : Nat} {fa : Addr} {fd : FuncData} {ps : List Str} {ms : List Bool} {rm : Bool} {F : List D → Res D}
def isObj (n m : Str) : D → Res Unit
  | .obj c ns _ => if c = n ∧ m ∉ ns then .ok () else .bad
  | _ => .bad
def dMeth (n m : Str) (F : List D → Res D) (f1 : Rho → Res D) (fs : Rho → Res (List D)) : Rho → Res D := fun r => (f1 r).bind fun x => (isObj n m x).bind fun _ => (fs r).bind fun ds => F (x :: ds)
theorem lookup_none {fs : List (Str × V)} {m : Str} (h : m ∉ fs.map (·.1)) : fs.lookup m = none := by
  induction fs with
  | nil => rfl
  | cons a fs ih =>
    obtain ⟨n, v⟩ := a
    simp only [List.map_cons, List.mem_cons, not_or] at h
    rw [List.lookup_cons]
    have : (m == n) = false := by simpa using h.1
    rw [this]
    exact ih h.2
theorem of_isObj {σ : St} {S H : Hp} {n m : Str} {d : D} {v : V} {g : Unit → Res D} {kk : D → Hp → Hp → Prop} (ex : Ex S H) (hv : RpB c.K c.cm S H v d) (p : PostG c σ S H ((isObj n m d).bind g) kk) :
    ∃ a C dx fs, v = .ref a ∧ c.cm n = some C ∧ H a = some (.ins C dx fs) ∧ fs.lookup m = none ∧ PostG c σ S H (g ()) kk := by
  cases d with
  | obj c' ns vs =>
    unfold isObj at p
    dsimp only at p
    split at p
    · rename_i hc
      obtain ⟨rfl, hm⟩ := hc
      obtain ⟨q, C', dx, fs, rfl, h1, h2, rfl, h4⟩ := RpB.obj hv ex
      exact ⟨q, C', dx, fs, rfl, h1, h2, lookup_none hm, p⟩
    · exact p.elim
  | _ => exact p.elim
theorem de_meth {n m : Str} {C : Addr} {pl : Sem Bool} (hcn : c.cm n = some C) (cl : Cls X.K C) (hm : Meth X.K C m fa) (F1 : FnOk X.prog X.w X.K X.mg X.base (L2N.CX X.prog X.w) k fa fd ps (spD c.K c.cm (true :: ms) rm F)) (tk : L2N.Takes X c.W) (hr : Room k X.A) (hb : L2.Binds X.K fd ps [])
    (he : PE X o (tR c G f1)) (ha : PA X (e :: es) (tM c G ms fs))
    (hst : starEach (e :: es) X.env = (false, eval e X.env) :: starEach es X.env := by rfl) (hpl : (backTo pos (starEach es X.env)).any (·.1) = false := by rfl)
    (ht : eval (.Call (.Attribute o m apos) (e :: es) [] pos) X.env = (do
      let ov ← eval o X.env
      standAt apos.atName
      let (f, first) ← holding [ov] (getMethod ov m pl)
      callWith pos f first (backTo pos (starEach (e :: es) X.env)) (backToKw pos (keywordEach [] X.env))) := by rfl) :
    PE X (.Call (.Attribute o m apos) (e :: es) [] pos) (rd c G (dMeth n m F f1 fs) (mR c rm)) :=
  pe_imp (pe_methSD (pl := pl) (E := fun σ cls d H => c.W cls d σ H) he cl hm F1 hr hb (fun σ => L2N.passAt tk σ) ha hst hpl ht) fun σ H Q ⟨S0, H0, S, r, ok, q⟩ => rd_seq ok q fun x v S1 H1 w1 o1 m1 p1 => by
    obtain ⟨a, C', dx, fs', rfl, z1, z2, z3, p2⟩ := of_isObj o1.ex m1 p1
    rw [hcn] at z1; cases z1
    exact ⟨a, dx, fs', rfl, z2, z3, rd_seq o1 p2 fun ds vs S2 H2 w2 o2 m2 p3 => call_rd (ds := x :: ds) (fun _ _ _ h => h) o2.ex ⟨RpB.mono m1 w2.s w2.h, m2⟩ (p3.anti (w1.h.trans w2.h))⟩
/-- what an __init__ promises: from its arguments' data to the new object's data -/
def spI (K : PySem.W.Frag) (cm : CM) (C : Addr) (ms : List Bool) (F : List D → Res D) : Sp := fun vs H Q E => ∃ x dx H1 S us ds, vs = .ref x :: us ∧ H1 x = none ∧ H1 dx = none ∧ dx ≠ x ∧ H = upd (upd H1 dx (.own x)) x (.ins C dx []) ∧ Ex S H1 ∧
  RpM ⟨K, cm, fun _ _ _ _ => False, none, true⟩ S H1 ms us ds ∧
  PostG ⟨K, cm, fun cls d _ H => E cls d H, none, true⟩ [] S H1 (F ds) fun a S' H' => (∃ ho, S' x = none ∧ H' x = some ho ∧ RpO K cm S' ho a) → Q .non H'
theorem make_rd {E : XK} {σ : St} {S H : Hp} {vs : List V} {ds : List D} {Q : VK} {C x dx : Addr} (hE : ∀ cls d H, c.W cls d σ H → E cls d H) (ex : Ex S H) (m : RpM c S H ms vs ds) (hx : H x = none) (hdx : H dx = none) (hne : dx ≠ x)
    (q : PostG c σ S H (F ds) fun a S' H' => ∀ b, mO c H S' H' b a → Q b H') : spI c.K c.cm C ms F (.ref x :: vs) (upd (upd H dx (.own x)) x (.ins C dx [])) (fun v H2 => v = .non ∧ Q (.ref x) H2) E := by
  refine ⟨x, dx, H, S, vs, ds, rfl, hx, hdx, hne, rfl, ex, RpM.cf (c := c) (c' := ⟨c.K, c.cm, fun _ _ _ _ => False, none, true⟩) rfl rfl m, ?_⟩
  cases hF : F ds with
  | ok a =>
    rw [hF] at q
    intro S' H' w ⟨ho, h1, h2, h3⟩
    exact ⟨rfl, q S' H' w _ ⟨x, ho, rfl, hx, h1, h2, h3⟩⟩
  | err n ns vs => rw [hF] at q; exact fun C dd S' H' fs h1 w h2 h3 h4 => hE _ _ _ (q C dd S' H' fs h1 w h2 h3 h4)
  | bad => rw [hF] at q; exact q.elim
theorem de_make {x : Str} {C : Addr} (M : Mk X.K C fa) (F1 : FnOk X.prog X.w X.K X.mg X.base (L2N.CX X.prog X.w) k fa fd ps (spI c.K c.cm C ms F)) (tk : L2N.Takes X c.W) (hr : Room (k + 1) X.A) (hg : Gl X x) (hm : X.mg x = some (.ref C)) (hb : L2.Binds X.K fd ps [])
    (ha : PA X (e :: es) (tM c G ms fs)) (hdb : (x == ("__debug__" : Str)) = false := by decide) (he : starEach (e :: es) X.env = (false, eval e X.env) :: starEach es X.env := by rfl) (hpl : (backTo pos (starEach es X.env)).any (·.1) = false := by rfl) :
    PE X (.Call (.Name x p) (e :: es) [] pos) (tO c G (dCall F fs)) :=
  pe_imp (pe_makeSD (dvs := []) (E := fun σ cls d H => c.W cls d σ H) M F1 hr hg hm hb .nil (fun σ => L2N.passAt tk σ) ha hdb he hpl) fun σ H Q ⟨S0, H0, S, r, ok, q⟩ => rd_seq ok q fun ds vs S1 H1 w1 o1 m1 p1 => fun x dx hx hdx hne => by
    rw [List.append_nil]
    exact make_rd (fun _ _ _ h => h) o1.ex m1 hx hdx hne (p1.anti w1.h)
end
def startI (n : Nat) (cls : Str) (ds : List D) : Rho := some (.obj cls [] []) :: ds.map some ++ List.replicate (n - (ds.length + 1)) none
def GI (x : Addr) (ms : List Bool) (n : Nat) : List Ow := .i x :: ms.map (fun m => if m then .b else .v) ++ List.replicate (n - (ms.length + 1)) .v
def runI (n : Nat) (cls : Str) (Fb : Rho → SR) (ds : List D) : Res D := match Fb (startI n cls ds) with
  | .nx r => (match r[0]? with
    | some (some d) => .ok d
    | _ => .bad)
  | .er _ n ns vs => .err n ns vs
  | _ => .bad
theorem kd_GI_succ {x : Addr} {ms : List Bool} {n i : Nat} : kd (GI x ms n) (i + 1) = kd (G0 ms (n - 1)) i := by
  unfold kd GI G0
  rw [List.getD_eq_getElem?_getD, List.getD_eq_getElem?_getD]
  simp [Nat.sub_sub, Nat.add_comm]
theorem startI_succ {n i : Nat} {cls : Str} {ds : List D} : (startI n cls ds)[i + 1]? = (startR (n - 1) ds)[i]? := by
  unfold startI startR
  simp [Nat.sub_sub, Nat.add_comm]
section
variable {P : Program} {w : World} {K : PySem.W.Frag} {mg : Str → Option Value} {base : Heap} {cm : CM}
theorem env_startI {c : Cf} {N : List Str} {S H1 : Hp} {us : List V} {ds : List D} {ms : List Bool} {x dx C : Addr} {n : Str} (hcn : c.cm n = some C) (ex : Ex S H1) (m : RpM c S H1 ms us ds) (hn : ms.length + 1 ≤ N.length) (hx : H1 x = none) (hdx : H1 dx = none) (hne : dx ≠ x) :
    EnvOk c S H1 (GI x ms N.length) S (upd (upd H1 dx (.own x)) x (.ins C dx [])) (L2.start N (.ref x :: us)) (startI N.length n ds) := by
  have hl := m.len
  have hx1 : (upd H1 dx (.own x)) x = none := by rw [upd_ne (Ne.symm hne)]; exact hx
  have e1 : Ex H1 (upd (upd H1 dx (.own x)) x (.ins C dx [])) := (Ex.new hdx).trans (Ex.new hx1)
  have fw : Fwd S H1 S (upd (upd H1 dx (.own x)) x (.ins C dx [])) := ⟨Ex.refl, e1, ex.trans e1, fun a o h n => by rw [n] at h; cases h⟩
  refine ⟨fw, by unfold L2.start startI; simp [hl.1, hl.2], fun i d h => ?_, fun i j d e p hi hj ki kj si sj => ?_, ⟨[], .nil fun i d hi => ?_⟩⟩
  · cases i with
    | zero =>
      have h : some (some (D.obj n [] [])) = some (some d) := h
      cases h
      refine ⟨.ref x, by unfold L2.start; simp, ?_⟩
      show SlotOk c H1 S _ (.i x) (.ref x) _
      exact ⟨rfl, x, _, rfl, upd_same, ex.nn hx, hx, .obj hcn rfl .nil⟩
    | succ i =>
      rw [startI_succ] at h
      have hd := startR_some h
      obtain ⟨v, mm, h1, h2, h3⟩ := m.get hd
      refine ⟨v, ?_, ?_⟩
      · unfold L2.start
        have hlt : i < us.length := (List.getElem?_eq_some_iff.mp h1).1
        rw [List.getElem?_append, if_pos (by simpa using hlt)]
        simp [h1]
      · rw [kd_GI_succ, kd_G0_at h2]
        cases mm with
        | true => exact h3
        | false => exact h3
  · cases i with
    | succ i => rw [kd_GI_succ] at ki; exact absurd ki kd_G0
    | zero => cases j with
      | zero => rfl
      | succ j => rw [kd_GI_succ] at kj; exact absurd kj kd_G0
  · cases i with
    | zero => exact ⟨fun _ h => (by cases h), fun h => (by cases h)⟩
    | succ i => rw [kd_GI_succ]; exact kd_G0_sw
/-- THE RULE for an __init__ -/
theorem dokI {x qual : Str} {st : Stmt} {f C : Addr} {fd : FuncData} {N ps : List Str} {k : Nat} {ms : List Bool} {n : Str} {Fb : Rho → SR} (F : Fun K x qual st f fd) (S : FnScope N ps (defScope st)) (hcn : cm n = some C) (hm : ms.length + 1 = ps.length) (hn : ps.length ≤ N.length)
    {G' : Addr → List Ow} (hG : ∀ a, kd (G' a) 0 = .i a)
    (hb : ∀ (cdv : Value) (A : Around) (outer : List Env) (s : Shared) (H : Hp) (E : XK) (a : Addr), Room k (A.deeper (PyProof.Rows.envOfC qual (defScope st) s.heap.objs.size f cdv)) →
      PSs (cxOf (L2N.CX P w) P w K mg base N qual (defScope st) f cdv A outer s H E) (defBody st) (sD (cfE K cm false E) [] (GI a ms N.length) (G' a) Fb)) :
    FnOk P w K mg base (L2N.CX P w) (k + 1) f fd ps (spI K cm C ms (runI N.length n Fb)) := by
  refine F.okN S (fun vs H Q E h => ?_) (fun cdv A outer s H vs Q E hr h => ?_)
  · obtain ⟨x, dx, H1, S, us, ds, rfl, _, _, _, _, _, m, _⟩ := h
    rw [List.length_cons, m.len.1, hm]
  · obtain ⟨x, dx, H1, S, us, ds, rfl, hx, hdx, hne, rfl, ex, m, q⟩ := h
    refine ⟨_, hb cdv A outer s _ E x hr, S, H1, S, startI N.length n ds, env_startI (c := cfE K cm false E) hcn ex (RpM.cf (c := ⟨K, cm, fun _ _ _ _ => False, none, true⟩) (c' := cfE K cm false E) rfl rfl m) (by omega) hx hdx hne, ?_⟩
    unfold runI at q
    cases hF : Fb (startI N.length n ds) with
    | rt d => rw [hF] at q; exact q.elim
    | nx r =>
      rw [hF] at q
      dsimp only at q
      intro σ' S' H' ok
      split at q
      · rename_i d hd
        obtain ⟨v, h1, h2⟩ := ok.slot 0 d hd
        rw [hG x] at h2
        obtain ⟨rfl, p, ho, e1, e2, e3, e4, e5⟩ := h2
        cases e1
        exact q S' H' ok.fwd ⟨ho, e3, e2, e5⟩
      · exact q.elim
    | er r n ns vs =>
      rw [hF] at q
      exact fun C dd σ' S' H' fs h1 fw _ h2 h3 h4 => q C dd S' H' fs h1 fw h2 h3 h4
    | bk r => rw [hF] at q; exact q.elim
    | ct r => rw [hF] at q; exact q.elim
    | bad => rw [hF] at q; exact q.elim
end
end Dx
end S_DxY
section S_DxZ
set_option Elab.async false
set_option linter.all false
set_option maxRecDepth 100000
set_option maxHeartbeats 2000000
namespace Dx
open PySem L2
section
variable {X : Cx} {c : Cf} {L G G' : List Ow} {f f1 f2 : Rho → Res D} {e e2 : Expr} {pos apos p : Pos} {fs : Rho → Res (List D)}
def enumS (d : D) : Res (List D) := (itemsS d).bind fun ds => .ok (numd 0 ds)
def pairs : List D → List D → List D
  | a :: as, b :: bs => .tup [a, b] :: pairs as bs
  | _, _ => []
def zipS : List D → Res (List D)
  | [.str x, .str y] => .ok (pairs (signs x) (signs y))
  | _ => .bad
def repS (x : Str) (n : Int) : Str := ⟨(List.replicate n.toNat x.cps.toList).flatten.toArray⟩
def rMulS : R2 := fun x y H Q => ∃ i j, x = .str i ∧ y = .int j ∧ j < 2 ^ 60 ∧ -(2 ^ 60) < j ∧ i.length * j.toNat ≤ sizeLine ∧ Q (.str (repS i j)) H
theorem repS_fold (x : Str) (n : Nat) (a : Array Nat) : (List.replicate n x.cps).foldl (· ++ ·) a = a ++ (List.replicate n x.cps.toList).flatten.toArray := by
  induction n generalizing a with
  | zero => simp
  | succ n ih => rw [List.replicate_succ, List.foldl_cons, ih, List.replicate_succ, List.flatten_cons]; apply Array.toList_inj.mp; simp
theorem op_mulS : OpR X (binaryOp .Mult) rMulS := by
  intro pins s σ H x y v u Q I rx ry h
  obtain ⟨i, j, rfl, rfl, h1, h2, hz, q⟩ := h
  obtain ⟨t, rfl⟩ := rx
  obtain ⟨t', rfl⟩ := ry
  have hz2 : (sizeLine : Nat) < 2 ^ 40 := by decide
  refine P.mul_str (by have a1 : ¬ j < -(2 ^ 63 : Int) := by omega
                       have a2 : ¬ j ≥ 2 ^ 63 := by omega
                       rw [decide_eq_false a1, decide_eq_false a2]; rfl) (fun hn hc => ?_) (fun hn hc => ?_) ?_
  · intro hgt
    have hj : 0 < j := by omega
    have h3 : (i.length : Int) * j ≤ sizeLine := by
      have : ((i.length * j.toNat : Nat) : Int) ≤ (sizeLine : Int) := by exact_mod_cast hz
      rw [Int.natCast_mul, Int.toNat_of_nonneg (by omega)] at this
      exact this
    have h4 : (2 ^ 63 - 1) / j + 1 ≤ (i.length : Int) := hgt
    have h5 : ((2 ^ 63 - 1) / j + 1) * j ≤ (i.length : Int) * j := Int.mul_le_mul_of_nonneg_right h4 (by omega)
    have h6 : (2 ^ 63 - 1) < ((2 ^ 63 - 1) / j + 1) * j := Int.lt_ediv_add_one_mul_self _ hj
    have h7 : ((sizeLine : Nat) : Int) < 2 ^ 40 := by exact_mod_cast hz2
    omega
  · exact decide_eq_false (Nat.not_lt.mpr hz)
  · have e1 : repS i j = ⟨(List.replicate j.toNat i.cps).foldl (· ++ ·) #[]⟩ := by
      unfold repS
      rw [repS_fold]; simp
    by_cases hn : j < 1
    · rw [if_pos hn]
      have : repS i j = Str.empty := by
        unfold repS
        rw [show j.toNat = 0 by omega]
        rfl
      rw [this] at q
      exact ⟨by decide, ⟨.str Str.empty, H, I.tok _, ⟨_, rfl⟩, q⟩⟩
    · rw [if_neg hn]
      by_cases hc : (j == 1 || i.length == 0) = true
      · rw [if_pos hc]
        have : repS i j = i := by
          rw [Bool.or_eq_true] at hc
          rcases hc with hc | hc
          · have : j = 1 := by simpa using hc
            subst this
            unfold repS
            apply Str.ext'
            simp
          · have h0 : i.cps.size = 0 := by have : i.length = 0 := by simpa using hc
                                           exact this
            have h0' : i.cps = #[] := Array.eq_empty_of_size_eq_zero h0
            unfold repS
            apply Str.ext'
            rw [h0']
            simp
        rw [this] at q
        exact ⟨.str i, H, I, ⟨_, rfl⟩, q⟩
      · rw [if_neg hc, ← e1]
        refine ⟨?_, ⟨.str (repS i j), H, I.tok _, ⟨_, rfl⟩, q⟩⟩
        have : (repS i j).length = i.length * j.toNat := by
          show (List.replicate j.toNat i.cps.toList).flatten.toArray.size = _
          rw [List.size_toArray, List.length_flatten, List.map_replicate, List.sum_replicate_nat, Array.length_toList, Nat.mul_comm]; rfl
        rw [this]; exact hz
noncomputable def mulX : D → D → Res D
  | .str a, .int k => guard (k < 2 ^ 60 ∧ -(2 ^ 60) < k ∧ a.length * k.toNat ≤ sizeLine) (.ok (.str (repS a k)))
  | x, y => mulD x y
def rMulY : R2 := fun x y H Q => rMulX x y H Q ∨ rMulS x y H Q
theorem or_mulX : OpR X (binaryOp .Mult) rMulY := or_mul.or op_mulS
theorem os_mulX : OpS c (mV c) rMulY mulX := by
  intro σ S H x y d e Q ex hx hy p
  unfold mulX at p
  split at p
  · cases hx.str; cases hy.int
    obtain ⟨⟨h1, h2, h3⟩, p⟩ := p.gd
    exact .inr ⟨_, _, rfl, rfl, h1, h2, h3, p.here ex (.str _)⟩
  · exact .inl (os_mul σ S H x y _ _ Q ex hx hy p)
variable {cpos : Pos}
end
end Dx
end S_DxZ
section S_DxO
set_option Elab.async false
set_option linter.all false
set_option maxRecDepth 100000
set_option maxHeartbeats 2000000
namespace Dx
open PySem L2 ItX
open PyProof.Rows hiding St
section
variable {X : Cx} {k : Nat} {fa C : Addr} {fd : FuncData} {ps : List Str} {sp : Sp} {pins : List (Addr × Obj)} {σ : St} {H : Hp} {s : Shared} {Q : VK} {us : List Value} {vs : List V}
abbrev noX : XK := fun _ _ _ => False
/-- a def runs below, and raises nothing -/
theorem run_ce {A : Around} {R : Value → Shared → Prop} {E' : Value → Shared → Prop} (F1 : FnOk X.prog X.w X.K X.mg X.base (L2N.CX X.prog X.w) k fa fd ps sp) (hr : Room k A) (e0 : Env0 X.prog X.w X.K X.mg X.base A X.stack s H) (hb : L2.Binds X.K fd ps []) (hK : X.K.In s.heap) (r : Vals vs us) (h : sp vs H Q noX)
    (fin : ∀ u s', CE X.stack X.prog X.w H s Q u s' → R u s') : wpAny (model X.prog X.w) A (call (.ref fa) us) R E' s := by
  have hl : (us ++ []).length = ps.length := by rw [List.append_nil, ← r.length]; exact F1.len _ _ _ _ h
  have hb2 := hb s us hK hl
  rw [List.append_nil] at hb2
  refine wpAny_call (codeAny_mono (F1.run A X.stack s H ⟨us, []⟩ us vs Q noX hr e0 hb2 r h) fun r s' hq => ?_)
  cases r with
  | error e => exact (cx_never hq).elim
  | ok fl =>
    cases fl with
    | ret u => exact fin u s' hq
    | next => exact False.elim hq
    | brk => exact False.elim hq
    | cont => exact False.elim hq
theorem run_calm {A : Around} {E' : Value → Shared → Prop} (F1 : FnOk X.prog X.w X.K X.mg X.base (L2N.CX X.prog X.w) k fa fd ps sp) (hr : Room k A) (e0 : Env0 X.prog X.w X.K X.mg X.base A X.stack s H) (hb : L2.Binds X.K fd ps []) (I : Inv X pins σ H s) (r : Vals vs us) (h : sp vs H Q noX) :
    wpAny (model X.prog X.w) A (call (.ref fa) us) (EP X pins σ Q) E' s := run_ce F1 hr e0 hb I.kIn r h fun u s' hq => I.after hq
theorem ins_at {a dx : Addr} {fs : List (Str × V)} (I : Inv X pins σ H s) (h : H a = some (.ins C dx fs)) : ∃ ox od, PySem.W.InstAt s.heap a ox C od ∧ ox.data = .plain := by
  obtain ⟨mA, O, _⟩ := ins_get I.hok h
  obtain ⟨od, J, _⟩ := O.look
  exact ⟨_, _, J, rfl⟩
def rLenO (C : Addr) (sp : Sp) : List V → Hp → VK → Prop := fun xs H Q => ∃ a dx fs, xs = [V.ref a] ∧ H a = some (.ins C dx fs) ∧ sp [.ref a] H (fun z H' => ∃ i : Int, z = .int i ∧ 0 ≤ i ∧ i < 2 ^ 63 ∧ Q z H') noX
theorem call_lenO (hm : L2.Meth X.K C "__len__" fa) (F1 : FnOk X.prog X.w X.K X.mg X.base (L2N.CX X.prog X.w) k fa fd ps sp) (hr : Room (k + 1) X.A) (hb : L2.Binds X.K fd ps []) : CallR X (.builtin "len") (rLenO C sp) := by
  intro pins s σ H xs us Q I r h
  obtain ⟨a, dx, fs, rfl, ha, q⟩ := h
  obtain ⟨u, rfl, ru⟩ := r.one
  cases ru
  obtain ⟨ox, od, J, _⟩ := ins_at I ha
  obtain ⟨m, hF⟩ := I.fr
  refine PySem.W.len_K hF I.ok.mod.kin J hm.at_ hm.fn (wpAny_mono (run_calm (us := [.ref a]) (vs := [.ref a]) F1 hr.in1 I.env0.in1 hb I (.cons rfl .nil) q) (fun w s' z => ?_) fun _ _ x => x)
  obtain ⟨z', H', I', rz, i, rfl, h0, h1, qz⟩ := z
  obtain ⟨t, rfl⟩ := rz
  exact ⟨⟨h0, h1⟩, .int i, H', I'.tok _, ⟨_, rfl⟩, qz⟩
def rInO (C : Addr) (neg : Bool) (sp : Sp) : R2 := fun x y H Q => ∃ a dx fs, y = V.ref a ∧ H a = some (.ins C dx fs) ∧ sp [.ref a, x] H (fun z H' => ∃ b : Bool, z = .bl b ∧ Q (.bl (if neg then !b else b)) H') noX
theorem op_inO (hm : L2.Meth X.K C "__contains__" fa) (F1 : FnOk X.prog X.w X.K X.mg X.base (L2N.CX X.prog X.w) k fa fd ps sp) (hr : Room k X.A) (hb : L2.Binds X.K fd ps []) : OpR X (compareOp .In) (rInO C false sp) := by
  intro pins s σ H x y v u Q I rx ry h
  obtain ⟨a, dx, fs, rfl, ha, q⟩ := h
  cases ry
  obtain ⟨ox, od, J, _⟩ := ins_at I ha
  obtain ⟨m, hF⟩ := I.fr
  refine PySem.W.in_K hF I.ok.mod.kin J hm.at_ hm.fn (wpAny_mono (run_calm (us := [.ref a, v]) (vs := [.ref a, x]) F1 hr I.env0 hb I (.cons rfl (.cons rx .nil)) q) (fun w s' z => ?_) fun _ _ x => x)
  obtain ⟨z', H', I', rz, b, rfl, qz⟩ := z
  cases rz
  exact wpAny_of_eq (a := b) rfl ⟨.bl b, H', I', rfl, qz⟩
theorem op_ninO (hm : L2.Meth X.K C "__contains__" fa) (F1 : FnOk X.prog X.w X.K X.mg X.base (L2N.CX X.prog X.w) k fa fd ps sp) (hr : Room k X.A) (hb : L2.Binds X.K fd ps []) : OpR X (compareOp .NotIn) (rInO C true sp) := by
  intro pins s σ H x y v u Q I rx ry h
  obtain ⟨a, dx, fs, rfl, ha, q⟩ := h
  cases ry
  obtain ⟨ox, od, J, _⟩ := ins_at I ha
  obtain ⟨m, hF⟩ := I.fr
  refine PySem.W.notIn_K hF I.ok.mod.kin J hm.at_ hm.fn (wpAny_mono (run_calm (us := [.ref a, v]) (vs := [.ref a, x]) F1 hr I.env0 hb I (.cons rfl (.cons rx .nil)) q) (fun w s' z => ?_) fun _ _ x => x)
  obtain ⟨z', H', I', rz, b, rfl, qz⟩ := z
  cases rz
  exact wpAny_of_eq (a := b) rfl ⟨.bl (!b), H', I', rfl, qz⟩
end
section
variable {X : Cx} {c : Cf} {L G G' : List Ow} {f f1 : Rho → Res D} {e o : Expr} {es : List Expr} {pos apos p : Pos} {fs : Rho → Res (List D)} {n : Str} {C : Addr} {F : List D → Res D} {ms : List Bool} {rm : Bool} {k : Nat} {fa : Addr} {fd : FuncData} {ps : List Str}
theorem calm_sp {S H : Hp} {vs : List V} {ds : List D} {Q : VK} {a : D} (ex : Ex S H) (m : RpM c S H ms vs ds) (hF : F ds = .ok a) (q : ∀ S' H' b, Fwd S H S' H' → mR c rm H S' H' b a → Q b H') : spD c.K c.cm ms rm F vs H Q noX := by
  refine call_rd (c := ⟨c.K, c.cm, fun _ _ _ _ => False, none, rm⟩) (σ := []) (fun _ _ _ h => h) ex (RpM.cf (c := c) (c' := ⟨c.K, c.cm, fun _ _ _ _ => False, none, rm⟩) rfl rfl m) ?_
  rw [hF]
  exact fun S' H' w b hb => q S' H' b w (by cases rm <;> exact hb)
/-- an object of the class n -/
def isCls (n : Str) : D → Bool
  | .obj c _ _ => decide (c = n)
  | _ => false
theorem of_isCls {S H : Hp} {v : V} {d : D} (ex : Ex S H) (hcn : c.cm n = some C) (h : isCls n d = true) (m : RpB c.K c.cm S H v d) : ∃ a dx fs, v = .ref a ∧ H a = some (.ins C dx fs) := by
  cases d with
  | obj c' ns vs =>
    have hc : c' = n := of_decide_eq_true h
    subst hc
    obtain ⟨q, C', dx, fs, rfl, h1, h2, _, _⟩ := RpB.obj m ex
    rw [hcn] at h1; cases h1
    exact ⟨q, dx, fs, rfl, h2⟩
  | _ => cases h
noncomputable def lenO (n : Str) (F : List D → Res D) (d : D) : Res D := if isCls n d = true then (match F [d] with
  | .ok (.int i) => guard (0 ≤ i ∧ i < 2 ^ 63) (.ok (.int i))
  | _ => .bad) else .bad
theorem cs_lenO (hcn : c.cm n = some C) : CallS c (mV c) (rLenO C (spD c.K c.cm [true] false F)) [true] (g1 (lenO n F)) := by
  intro σ S H vs ds Q ex m p
  obtain ⟨v, d, rfl, rfl, h⟩ := m.one
  have p : PostG c σ S H (lenO n F d) _ := p
  unfold lenO at p
  split at p
  · rename_i hc
    obtain ⟨a, dx, gs, rfl, h2⟩ := of_isCls ex hcn hc h
    split at p
    · rename_i i hF
      obtain ⟨⟨h0, h1⟩, p⟩ := p.gd
      exact ⟨a, dx, gs, rfl, h2, calm_sp (ds := [d]) ex ⟨h, trivial⟩ hF fun S' H' b w hb => by
        have hb : Rp c.K c.cm S' b (.int i) := hb
        cases hb
        exact ⟨i, rfl, h0, h1, p S' H' w _ (.int i)⟩⟩
    · exact p.elim
  · exact p.elim
def inO (n : Str) (neg : Bool) (F : List D → Res D) (x d : D) : Res D := if isCls n d = true then (match F [d, x] with
  | .ok (.bl b) => .ok (.bl (if neg then !b else b))
  | _ => .bad) else .bad
theorem os_inO {neg : Bool} {m2 : Bool} (hcn : c.cm n = some C) : OpS c (mV c) (rInO C neg (spD c.K c.cm [true, true] false F)) (inO n neg F) := by
  intro σ S H x y d e Q ex hx hy p
  unfold inO at p
  split at p
  · rename_i hc
    obtain ⟨a, dx, gs, rfl, h2⟩ := of_isCls ex hcn hc hy
    split at p
    · rename_i b hF
      exact ⟨a, dx, gs, rfl, h2, calm_sp (ds := [e, d]) ex ⟨hy, hx, trivial⟩ hF fun S' H' v w hb => by
        have hb : Rp c.K c.cm S' v (.bl b) := hb
        cases hb
        exact ⟨b, rfl, p S' H' w _ (.bl _)⟩⟩
    · exact p.elim
  · exact p.elim
def dStar (f : Rho → Res D) (fs : Rho → Res (List D)) : Rho → Res (List D) := fun r => (f r).bind fun d => (items d).bind fun xs => (fs r).bind fun ys => .ok (xs ++ ys)
def zipL : List D → Res (List D)
  | [.lst x, .lst y] => .ok (pairs x y)
  | _ => .bad
end
/-- what such an __iter__ gives: a new iterator of the list -/
def ItOk (P : Program) (w : World) (K : PySem.W.Frag) (mg : Str → Option Value) (base : Heap) (k : Nat) (f : Addr) (C : Addr) (fl : Str) : Prop :=
  ∀ (A : Around) (outer : List Env) (s : Shared) (H : Hp) (a dx l : Addr) (fs : List (Str × V)) (xs : List V) (Q : VK), Room k A → Env0 P w K mg base A outer s H → H a = some (.ins C dx fs) → fs.lookup fl = some (.ref l) → SqL K H l xs →
    (∀ it, H it = none → s.heap.objs.size ≤ it → Q (.ref it) (upd H it (ItO l it 0))) → codeAny (model P w) A (.call (.ref f) ⟨[.ref a], []⟩) (CR (L2N.CX P w) outer P w H s Q noX) s
theorem iter_ok {P : Program} {w : World} {K : PySem.W.Frag} {mg : Str → Option Value} {base : Heap} {qual : Str} {st : Stmt} {fI C : Addr} {fd : FuncData} {N ps : List Str} {fl : Str} (F : Fun K "__iter__" qual st fI fd) (S : FnScope N ps (defScope st)) (hl : ps.length = 1) (hN : N.length = 1) (cl : Cls K C) (na : NoAttr K C fl) (bi : L2.Binds K fd ps [])
    (hb : ∀ (cdv : Value) (A : Around) (outer : List Env) (s : Shared) (H : Hp) (E : XK), PSs (cxOf (L2N.CX P w) P w K mg base N qual (defScope st) fI cdv A outer s H E) (defBody st) (tRet (tCB (ItX.rIterN K s.heap.objs.size) (tCons (tFld K (tVar 0) fl) tNil)))) :
    ItOk P w K mg base 1 fI C fl := by
  intro A outer s H a dx l fs xs Q hr e0 ha hf hq q
  obtain ⟨oc, od, kV, doc, pm, an, cd, ct, osl, rfl, lk, hcd⟩ := F.ex
  have inK : K.In s.heap := e0.mod.kin.keeps fun z o e => (e0.bs z o e).1
  have nl : s.heap.NoLimit := e0.mod.nolimit.keeps fun z o e => (e0.bs z o e).1
  have bnd := bi s [Value.ref a] inK (by rw [List.append_nil]; exact hl.symm)
  rw [List.append_nil] at bnd
  have kinds : ∀ y ∈ ps.zip [Value.ref a], (defScope st).names.lookup y.1 = some .local ∨ ((defScope st).names.lookup y.1 = some .cell ∧ ((cellsFrom (s.heap.objs.size + 1) (defScope st).names []).lookup y.1).isSome = true) := by
    rintro ⟨n, v⟩ hy
    rcases S.par n (List.of_mem_zip hy).1 with z | z
    · exact .inl z
    · exact .inr ⟨z, PySem.W.cellsFrom_some _ _ _ (.inl z)⟩
  refine codeAny_call_function hr.depth (inK _ _ lk) rfl S.co S.gen rfl (PySem.W.codeRec_of inK hcd) (bnd _ _ _ _ (wpAny_newFunctionEnv_cells S.kind kinds fun env he s1 ic => ?_))
  subst he
  refine ⟨nl.keeps ic.toInCall.keep, codeAny_func ?_⟩
  have J0 : Inv (cxOf (L2N.CX P w) P w K mg base N qual (defScope st) fI cd A outer s H noX) [] (L2.start N [V.ref a]) H s1 := inv_start S hr.hd e0 hl.symm (.cons rfl .nil) ic
  have es : L2.start N [V.ref a] = [some (.ref a)] := by unfold L2.start; rw [hN]; rfl
  have goal : tRet (tCB (ItX.rIterN K s.heap.objs.size) (tCons (tFld K (tVar 0) fl) tNil)) { nx := fun _ H' => Q .non H', rt := Q } (L2.start N [V.ref a]) H := by
    rw [es]
    exact ⟨.ref a, rfl, a, C, dx, fs, .ref l, rfl, ha, cl, na, hf, l, xs, rfl, hq, q⟩
  refine wpAny_mono ((hb cd A outer s H noX).run [] s1 _ H _ J0 goal) (fun fl s' z => ?_) fun e s' z => z
  cases fl with
  | ret u =>
    obtain ⟨v, σ', H', J, rv, z⟩ := z
    exact ⟨v, H', J.os, J.bare, J.base, J.hok, rv, z⟩
  | next =>
    obtain ⟨σ', H', J, z⟩ := z
    exact ⟨V.non, H', J.os, J.bare, J.base, J.hok, rfl, z⟩
  | brk => obtain ⟨_, _, _, z⟩ := z; exact z.elim
  | cont => obtain ⟨_, _, _, z⟩ := z; exact z.elim
section
variable {X : Cx} {k : Nat} {fa C : Addr} {pins : List (Addr × Obj)} {σ : St} {H : Hp} {s : Shared} {fl : Str}
/-- the call of __iter__: a new iterator of the list -/
theorem run_it {A : Around} {E' : Value → Shared → Prop} {a dx l : Addr} {fs : List (Str × V)} {xs : List V} (F1 : ItOk X.prog X.w X.K X.mg X.base k fa C fl) (hr : Room k A) (e0 : Env0 X.prog X.w X.K X.mg X.base A X.stack s H) (I : Inv X pins σ H s)
    (ha : H a = some (.ins C dx fs)) (hf : fs.lookup fl = some (.ref l)) (hq : SqL X.K H l xs) :
    wpAny (model X.prog X.w) A (call (.ref fa) [.ref a]) (fun u s' => ∃ it, u = .ref it ∧ s.heap.objs.size ≤ it ∧ H it = none ∧ Inv X pins σ (upd H it (ItO l it 0)) s') E' s := by
  refine wpAny_call (codeAny_mono (F1 A X.stack s H a dx l fs xs (fun v H' => ∃ it, v = .ref it ∧ H it = none ∧ s.heap.objs.size ≤ it ∧ H' = upd H it (ItO l it 0)) hr e0 ha hf hq fun it hit hs => ⟨it, rfl, hit, hs, rfl⟩) fun r s' hr => ?_)
  cases r with
  | error e => exact (cx_never hr).elim
  | ok fl =>
    cases fl with
    | ret u =>
      obtain ⟨v2, H2, I2, r2, it, rfl, h2, h3, rfl⟩ := I.after hr
      cases r2
      exact ⟨it, rfl, h3, h2, I2⟩
    | next => exact False.elim hr
    | brk => exact False.elim hr
    | cont => exact False.elim hr
theorem it_next {A : Around} {Q : Value → Shared → Prop} {E : Value → Shared → Prop} {l it : Addr} (I : Inv X pins σ H s) (h : H it = some (ItO l it 0)) (q : Q (.ref it) s) : PySem.W.OwitIt (model X.prog X.w) A Q E (.ref it) s := by
  have eo := itO_get I h
  unfold PySem.W.OwitIt
  exact wpAny_specialOf (T := "list_iterator") ⟨_, eo, rfl⟩ slot_listiter_next.lookup q
end
section
variable {X : Cx} {c : Cf} {G : List Ow} {f : Rho → Res D} {e : Expr} {n fl : Str} {C fa : Addr} {fd : FuncData} {ps : List Str} {k : Nat} {tg : Expr}
def iOwn (K : PySem.W.Frag) (C : Addr) (fl : Str) (te : TE) : TI := fun σ H R => te σ H fun x H1 => ∃ a dx fs l xs, x = V.ref a ∧ H1 a = some (.ins C dx fs) ∧ fs.lookup fl = some (.ref l) ∧ SqL K H1 l xs ∧ R (Itl K l) H1
theorem itlF0 (K : PySem.W.Frag) (a : Addr) : ItlF K a 0 = Itl K a := by
  unfold ItlF
  simp only [Nat.zero_add]
theorem pi_own {te : TE} (hm : L2.Meth X.K C "__iter__" fa) (F1 : ItOk X.prog X.w X.K X.mg X.base k fa C fl) (hr : Room k X.A) (he : PE X e te) : PI X tg e (iOwn X.K C fl te) := by
  refine ⟨fun pins s σ H R I h => ?_⟩
  refine thn (he.run pins s σ H _ I h) fun v s1 ⟨x, H1, I1, r1, a, dx, fs, l, xs, ex, ha, hf, hq, q⟩ => ?_
  subst ex
  cases r1
  obtain ⟨ox, od, J, _⟩ := ins_at I1 ha
  obtain ⟨m, hF⟩ := I1.fr
  refine PySem.W.owit_iter hF I1.ok.mod.kin J hm.at_ hm.fn (wpAny_mono (run_it F1 hr I1.env0 I1 ha hf hq) (fun u s2 z => ?_) fun _ _ z => z)
  obtain ⟨it, rfl, hsz, hit, I2⟩ := z
  have hi : upd H1 it (ItO l it 0) it = some (ItO l it 0) := upd_same
  have eo := itO_get I2 hi
  have st : s2.heap.IsListIter it l (0 + 0) := ⟨_, eo, rfl, rfl⟩
  refine it_next I2 hi ?_
  have hi' := hi
  unfold ItO at hi'
  refine ⟨it, [it], _, _, dropH (upd H1 it (ItO l it 0)) it, rfl, inv_drop I2 hi', turn_listF l it 0, st, fun b hb => ?_, ?_⟩
  · have e : b = it := by simpa using hb
    rw [e]
    exact inv_fp I2 hi (Nat.le_trans I1.sz hsz)
  · rw [dropH_upd hit, itlF0]
    exact q
/-- an object of the class n: the items of its list fl -/
def itO (n fl : Str) : D → Res (List D)
  | .obj c ns vs => if c = n then (match lookF ns vs fl with
    | some (.lst ds) => .ok ds
    | _ => .bad) else .bad
  | _ => .bad
theorem of_itO {S H : Hp} {v : V} {d : D} {ds : List D} (ex : Ex S H) (hcn : c.cm n = some C) (h : itO n fl d = .ok ds) (m : RpB c.K c.cm S H v d) : ∃ a dx fs l xs, v = .ref a ∧ H a = some (.ins C dx fs) ∧ fs.lookup fl = some (.ref l) ∧ S l = some (.lst xs) ∧ RpA c.K c.cm S xs ds := by
  cases d with
  | obj c' ns vs =>
    unfold itO at h
    dsimp only at h
    split at h
    · rename_i hc
      subst hc
      split at h
      · rename_i ds' hd
        cases h
        obtain ⟨q, C', dx, fs, rfl, h1, h2, rfl, h4⟩ := RpB.obj m ex
        rw [hcn] at h1; cases h1
        obtain ⟨v', hv, hr⟩ := look_rp h4 hd
        cases hr with
        | @lst l xs _ a1 a2 => exact ⟨q, dx, fs, l, xs, rfl, h2, hv, a1, a2⟩
      · cases h
    · cases h
  | _ => cases h
theorem di_own (hcn : c.cm n = some C) (hm : L2.Meth X.K C "__iter__" fa) (F1 : ItOk X.prog X.w X.K X.mg X.base k fa C fl) (hr : Room k X.A) (he : PE X e (tR c G f)) (hK : c.K = X.K := by rfl) : PI X tg e (iD c G (dIt (itO n fl) f)) :=
  pi_imp (pi_own hm F1 hr he) fun σ H R ⟨S0, H0, S, r, ok, p⟩ => rd_seq ok p fun d v S1 H1 w1 o1 m1 p1 => by
    rw [← hK]
    cases hd : itO n fl d with
    | ok ds =>
      rw [hd] at p1
      obtain ⟨a, dx, fs, l, xs, rfl, h1, h2, h3, h4⟩ := of_itO o1.ex hcn hd m1
      exact ⟨a, dx, fs, l, xs, rfl, h1, h2, .inl (.inl (o1.ex _ _ h3)), p1.go o1.ex _ (gives_list (.inl (.inl h3)) h4)⟩
    | err _ _ _ => exfalso; unfold itO at hd; split at hd <;> (try split at hd) <;> (try split at hd) <;> cases hd
    | bad => rw [hd] at p1; exact p1.elim
end
end Dx
end S_DxO
section S_DxP
set_option Elab.async false
set_option linter.all false
set_option maxRecDepth 100000
set_option maxHeartbeats 2000000
namespace Dx
open PySem L2 ItX
open PyProof.Rows hiding St
/-- a length, also of a dict with tuple keys -/
def LenX (K : PySem.W.Frag) (v : V) (H : Hp) (n : Nat) : Prop := LenV K v H n ∨ ∃ p kvs, v = .ref p ∧ Rd H p (.dT kvs) ∧ n = kvs.length
def rLenX (K : PySem.W.Frag) : List V → Hp → VK → Prop := fun xs H Q => ∃ x n, xs = [x] ∧ LenX K x H n ∧ Q (.int (n : Int)) H
theorem call_lenX {X : Cx} : CallR X (.builtin "len") (rLenX X.K) := by
  intro pins s σ H xs us Q I r h
  obtain ⟨x, n, rfl, h | ⟨p, kvs, rfl, hq, rfl⟩, q⟩ := h
  · exact call_len pins s σ H [x] us Q I r ⟨x, n, rfl, h, q⟩
  · obtain ⟨u, rfl, ru⟩ := r.one
    cases ru
    obtain ⟨z, hd, ys, rel, dd⟩ := dt_rd I.hok hq
    have hl : kvs.length = ys.length := Paired.length rel
    refine call_len_dictH hd dd (by rw [← hl]; rw [sizeLine_eq] at z; omega) ?_
    rw [← hl]
    exact ⟨.int ((kvs.length : Nat) : Int), H, I.tok _, ⟨_, rfl⟩, q⟩
/-- a length that leaves all as it is: return len(self.f) -/
def spLn (K : PySem.W.Frag) (C : Addr) (fl : Str) : Sp := fun vs H Q _ => ∃ a dx fs v n, vs = [.ref a] ∧ H a = some (.ins C dx fs) ∧ fs.lookup fl = some v ∧ LenX K v H n ∧ Q (.int (n : Int)) H
theorem len_ok {P : Program} {w : World} {K : PySem.W.Frag} {mg : Str → Option Value} {base : Heap} {qual : Str} {st : Stmt} {fI C : Addr} {fd : FuncData} {N ps : List Str} {fl : Str} (F : Fun K "__len__" qual st fI fd) (S : FnScope N ps (defScope st)) (hl : ps.length = 1) (hN : N.length = 1) (cl : Cls K C) (na : NoAttr K C fl)
    (hb : ∀ (cdv : Value) (A : Around) (outer : List Env) (s : Shared) (H : Hp) (E : XK), PSs (cxOf (L2N.CX P w) P w K mg base N qual (defScope st) fI cdv A outer s H E) (defBody st) (tRet (tCB (rLenX K) (tCons (tFld K (tVar 0) fl) tNil)))) :
    FnOk P w K mg base (L2N.CX P w) 1 fI fd ps (spLn K C fl) := by
  refine F.okN (k := 0) S (fun vs H Q E h => ?_) (fun cdv A outer s H vs Q E hr h => ?_)
  · obtain ⟨a, dx, fs, v, n, rfl, _⟩ := h; exact hl.symm
  · obtain ⟨a, dx, fs, v, n, rfl, ha, hf, hq, q⟩ := h
    refine ⟨_, hb cdv A outer s H E, ?_⟩
    have e : L2.start N [.ref a] = [some (.ref a)] := by unfold L2.start; rw [hN]; rfl
    rw [e]
    exact ⟨.ref a, rfl, a, C, dx, fs, v, rfl, ha, cl, na, hf, v, n, rfl, hq, q⟩
section
variable {X : Cx} {k : Nat} {fi fn C : Addr} {fd : FuncData} {ps : List Str} {pins : List (Addr × Obj)} {σ : St} {H : Hp} {s : Shared} {fl gl : Str} {A1 : Around}
theorem lenV_put {K : PySem.W.Frag} {v : V} {n : Nat} {q : Addr} {u : HO} (h : LenV K v H n) (hq : H q = none) : LenV K v (upd H q u) n := by
  cases v with
  | ref p =>
    rcases h with ⟨xs, h1, h2⟩ | ⟨xs, h1, h2⟩
    · exact .inl ⟨xs, (Ex.new hq).l h1, h2⟩
    · exact .inr ⟨xs, (Ex.new hq).t h1, h2⟩
  | str y => exact h
  | byt y => exact h
  | _ => exact h.elim
theorem lenX_put {K : PySem.W.Frag} {v : V} {n : Nat} {q : Addr} {u : HO} (h : LenX K v H n) (hq : H q = none) : LenX K v (upd H q u) n := by
  rcases h with h | ⟨p, kvs, rfl, h, rfl⟩
  · exact .inl (lenV_put h hq)
  · refine .inr ⟨p, kvs, rfl, ?_, rfl⟩
    rcases h with h | ⟨o, h⟩
    · exact .inl ((Ex.new hq) _ _ h)
    · exact .inr ⟨o, (Ex.new hq) _ _ h⟩
/-- the walk of a list's iterator that fills the list at q -/
theorem ext_loop {Rs : Result → Shared → Prop} {q it l : Addr} {xs : List V} (hh : A1.in1.handled = none) (hq : H q = none) (hs : SqL X.K H l xs) (hz : xs.length ≤ sizeLine) (hdone : ∀ s, Inv X pins σ (upd H q (.lst xs)) s → Rs (.ok (.ret .none)) s) :
    ∀ (m i : Nat) (s : Shared), i + m = xs.length → Inv X pins σ (upd H q (.lst (xs.take i))) s → FpOk X pins (upd H q (.lst (xs.take i))) it → s.heap.IsListIter it l i →
      codeAny (model X.prog X.w) A1 (.builtin "list.extend.loop" ⟨[.ref q, .ref it, .none], []⟩) Rs s := by
  intro m
  induction m with
  | zero =>
    intro i s hi I hf st
    refine codeAny_builtin PySem.F.entry_extend_loop ?_
    rw [Around.under_plainId PySem.F.plain_extend_loop _]
    show wpAny _ A1.in1 (pyNext (.ref it) >>= _) _ _ s
    obtain ⟨its, rv, p, _⟩ := I.list ((Ex.new hq).l hs)
    have hl := rv.length
    obtain ⟨f0, f1, f2, f3, f4, f5⟩ := hf
    refine wpAny_bind (wpAny_pyNext_list_end hh st p.isList (by simp; omega) fun h' eb => wpAny_pure (hdone _ ?_))
    have e : xs.take i = xs := List.take_of_length_le (by omega)
    rw [e] at I f0
    exact I.turned (t' := s.toks) (fun b o hb e => eb b o hb e) f0 f1 f3 f4 f5
  | succ m ih =>
    intro i s hi I hf st
    refine codeAny_builtin PySem.F.entry_extend_loop ?_
    rw [Around.under_plainId PySem.F.plain_extend_loop _]
    show wpAny _ A1.in1 (pyNext (.ref it) >>= _) _ _ s
    obtain ⟨its, rv, p, _⟩ := I.list ((Ex.new hq).l hs)
    have hil : i < xs.length := by omega
    obtain ⟨u, hu, ru⟩ := rv.get (List.getElem?_eq_getElem hil)
    have hf' := hf
    obtain ⟨f0, f1, f2, f3, f4, f5⟩ := hf
    refine wpAny_bind (wpAny_pyNext_list_item st p.isList (x := u) (by simpa using hu) fun h' st' sb => ?_)
    have I1 : Inv X pins σ (upd H q (.lst (xs.take i))) { s with heap := h' } := I.turned (t' := s.toks) (fun b o hb e => (sb.2 b hb).trans e) f0 f1 f3 f4 f5
    show wpAny _ A1.in1 (updateSeq q (·.push u) >>= _) _ _ _
    obtain ⟨z, its2, n2, r2, hl2, e2⟩ := I1.lstM upd_same
    have hlt : (xs.take i).length = i := by rw [List.length_take]; omega
    refine wpAny_bind (wpAny_updateSeq e2 rfl (wpAny_pure ⟨plainId_quiet PySem.F.plain_extend_loop _, ?_⟩) (by rw [List.size_toArray]; omega) (by show (its2.toArray.push u).size ≤ sizeLine + 1; rw [Array.size_push, List.size_toArray]; omega))
    have I2 := I1.lset (f := (·.push u)) (its' := its2 ++ [u]) (ys := xs.take i ++ [xs[i]]) (t' := s.toks) upd_same e2 (by simp) (r2.append (.cons ru .nil)) (by rw [List.length_append, List.length_singleton]; omega)
    rw [upd_upd] at I2
    have et : xs.take i ++ [xs[i]] = xs.take (i + 1) := by rw [List.take_add_one, List.getElem?_eq_getElem hil]; rfl
    rw [et] at I2
    have hne : it ≠ q := fun z => by rw [z, upd_same] at f0; cases f0
    refine ih (i + 1) _ (by omega) I2 ⟨by rw [upd_ne hne] at f0 ⊢; exact f0, f1, f2, f3, f4, f5⟩ ?_
    obtain ⟨o, eo, co, do_⟩ := st'
    exact ⟨o, by rw [PySem.Heap.get?_update_ne _ _ _ _ hne]; exact eo, co, do_⟩
/-- what list(o) asks of the length -/
theorem len_hint {A : Around} {E : Value → Shared → Prop} {Q : Bool → Shared → Prop} {a dx : Addr} {fs : List (Str × V)} {v : V} {n : Nat} (hm : L2.Meth X.K C "__len__" fn) (F1 : FnOk X.prog X.w X.K X.mg X.base (L2N.CX X.prog X.w) k fn fd ps (spLn X.K C gl)) (hb : L2.Binds X.K fd ps []) (hr : Room (k + 1) A) (e0 : Env0 X.prog X.w X.K X.mg X.base A X.stack s H)
    (I : Inv X pins σ H s) (ha : H a = some (.ins C dx fs)) (hf : fs.lookup gl = some v) (hv : LenX X.K v H n) (hn : n ≤ sizeLine) (q : ∀ b s', Inv X pins σ H s' → Q b s') :
    wpAny (model X.prog X.w) A (Builtin.List.listLengthHint (.ref a)) Q E s := by
  obtain ⟨ox, od, J, _⟩ := ins_at I ha
  obtain ⟨m, hF⟩ := I.fr
  have h63 : (n : Int) < 2 ^ 63 := by have := sizeLine_eq; omega
  unfold Builtin.List.listLengthHint
  refine wpAny_bind (wpAny_bind (J.type.here ((PySem.W.looks_findIn I.kIn hm.at_).here ?_)))
  refine PySem.W.KFB.if_not rfl ?_
  refine PySem.W.KFB.if_so rfl ?_
  refine wpAny_bind (wpAny_rule ?_)
  refine wpAny_bind (wpAny_attempt (PySem.W.len_K hF I.ok.mod.kin J hm.at_ hm.fn (wpAny_mono (run_calm (us := [.ref a]) (vs := [.ref a]) (Q := fun z H' => z = .int (n : Int) ∧ H' = H) (E' := fun _ _ => False) F1 hr.in1 e0.in1 hb I (.cons rfl .nil) ⟨a, dx, fs, v, n, rfl, ha, hf, hv, rfl, rfl⟩) (fun w s' z => ?_) fun _ _ z => z.elim)))
  obtain ⟨z', H', I', rz, rfl, rfl⟩ := z
  obtain ⟨t, rfl⟩ := rz
  refine ⟨⟨by omega, h63⟩, ?_⟩
  refine wpAny_bind (wpAny_pure ?_)
  refine PySem.W.KFB.if_not (by rw [Int.toNat_natCast]; exact notLongL hn) ?_
  exact wpAny_pure (q _ _ (I'.tok _))
/-- list(o) -/
def rListO (K : PySem.W.Frag) (C : Addr) (fl gl : Str) : List V → Hp → VK → Prop := fun xs H Q => ∃ a dx fs l zs v n, xs = [.ref a] ∧ H a = some (.ins C dx fs) ∧ fs.lookup fl = some (.ref l) ∧ SqL K H l zs ∧ zs.length ≤ sizeLine ∧ fs.lookup gl = some v ∧ LenX K v H n ∧ n ≤ sizeLine ∧ ∀ q, H q = none → Q (.ref q) (upd H q (.lst zs))
theorem call_listO (hi : L2.Meth X.K C "__iter__" fi) (FI : ItOk X.prog X.w X.K X.mg X.base k fi C fl) (hm : L2.Meth X.K C "__len__" fn) (F1 : FnOk X.prog X.w X.K X.mg X.base (L2N.CX X.prog X.w) k fn fd ps (spLn X.K C gl)) (hb : L2.Binds X.K fd ps []) (hr : Room (k + 3) X.A) (hc : X.calm = true) :
    CallR X (.type "list") (rListO X.K C fl gl) := by
  intro pins s σ H xs us Q I rv h
  obtain ⟨a, dx, fs, l, zs, v, n, rfl, ha, hf, hq, hz, hg, hv, hn, qq⟩ := h
  obtain ⟨u, rfl, ru⟩ := rv.one
  cases ru
  have hh : X.A.in1.in1.handled = none := I.ok.hd hc
  refine callType_codes (Q₁ := fun obj s₁ => obj = .ref s.heap.objs.size ∧ s₁ = { s with heap := s.heap.push { cls := .type "list", data := .seq #[] } }) PySem.F.called_list (PySem.F.typeCall_list_1 _) PySem.F.entry_list_init
    (code_list_new _ ⟨rfl, rfl⟩) fun obj s₁ h₁ => ?_
  obtain ⟨rfl, rfl⟩ := h₁
  have hS : (s.heap.push { cls := .type "list", data := .seq #[] }).get? s.heap.objs.size = some { cls := .type "list", data := .seq #[] } := Heap.get?_push_size _ rfl
  refine ⟨⟨_, hS, rfl⟩, PySem.F.args_list_init_2 _ _, ?_⟩
  have fr : H s.heap.objs.size = none := I.hok.fresh (Nat.le_refl _)
  have I1 : Inv X pins σ (upd H s.heap.objs.size (.lst [])) { s with heap := s.heap.push { cls := .type "list", data := .seq #[] } } := I.lnew (its := []) (t' := s.toks) .nil (Nat.zero_le _)
  show wpAny _ _ (do let old ← Builtin.List.listItems (.ref s.heap.objs.size); Builtin.List.listUpdate (.ref s.heap.objs.size) (fun _ => #[]); letGo old.toList.reverse; Builtin.List.listExtendWith (.ref s.heap.objs.size) (.ref a) .none) _ _ _
  refine wpAny_bind ?_
  unfold Builtin.List.listItems
  refine wpAny_bind (wpAny_seqItems hS rfl (wpAny_pure ?_))
  show wpAny _ _ (updateSeq s.heap.objs.size (fun _ => #[]) >>= fun _ => letGo (#[] : Array Value).toList.reverse >>= fun _ => Builtin.List.listExtendWith (.ref s.heap.objs.size) (.ref a) .none) _ _ _
  refine wpAny_bind (wpAny_updateSeq hS rfl ?_)
  have I2 := I1.lset (f := fun _ => #[]) (its := []) (its' := []) (ys := []) (t' := s.toks) upd_same hS rfl .nil (Nat.zero_le _)
  rw [upd_upd] at I2
  refine wpAny_bind (wpAny_letGo ?_)
  generalize s.heap.objs.size = q at fr I2 qq hS ⊢
  generalize ({ heap := Heap.update _ q _, gens := _, drawn := _, toks := _, os := _ } : Shared) = s3 at I2 ⊢
  have ha2 : upd H q (.lst []) a = some (.ins C dx fs) := by rw [upd_ne (ne_of_none ha fr)]; exact ha
  have hq2 : SqL X.K (upd H q (.lst [])) l zs := (Ex.new fr).l hq
  have hne : q ≠ a := fun z => by rw [← z, fr] at ha; cases ha
  obtain ⟨ox, od, J, _⟩ := ins_at I2 ha2
  obtain ⟨m0, hF⟩ := I2.fr
  unfold Builtin.List.listExtendWith
  refine wpAny_bind (J.type.here ?_)
  have h1 : Builtin.List.listSameRef (.ref q) (.ref a) = false := by simp [Builtin.List.listSameRef, hne]
  have h2 : (Value.ref C == Value.type "list") = false := rfl
  have h3 : (Value.ref C == Value.type "tuple") = false := rfl
  simp only [h1, h2, h3, Bool.or_false, Bool.false_eq_true, if_false]
  have rr : Room (k + 1) X.A.in1.in1 := (show Room (k + 2) X.A.in1 from Room.in1 hr).in1
  refine wpAny_bind (PySem.W.owit_iter hF I2.ok.mod.kin J hi.at_ hi.fn (wpAny_mono (run_it (A := X.A.in1.in1) FI (rr.mono (by omega)) I2.env0.in1.in1 I2 ha2 hf hq2) (fun u s4 z => ?_) fun _ _ z => z))
  obtain ⟨it, rfl, hsz, hit, I4⟩ := z
  have hItO : upd (upd H q (.lst [])) it (ItO l it 0) it = some (ItO l it 0) := upd_same
  have hneI : it ≠ q := fun z => by rw [z, upd_same] at hit; cases hit
  refine it_next I4 hItO ?_
  have hItO' := hItO
  unfold ItO at hItO'
  have I5 := inv_drop I4 hItO'
  rw [dropH_upd hit] at I5
  have fp : FpOk X pins (upd H q (.lst [])) it := by
    have := inv_fp I4 hItO (Nat.le_trans I2.sz hsz)
    rw [dropH_upd hit] at this
    exact this
  have eo := itO_get I4 hItO
  have st : s4.heap.IsListIter it l 0 := ⟨_, eo, rfl, rfl⟩
  have hvq : LenX X.K v (upd H q (.lst [])) n := lenX_put hv fr
  have fin : ∀ s', Inv X pins σ (upd H q (.lst zs)) s' → wants (fun r s₂ => r = .none ∧ EP X pins σ Q (.ref q) s₂) X.xe (.ok (.ret .none)) s' := fun s' I' => ⟨rfl, .ref q, _, I', rfl, qq q fr⟩
  refine wpAny_bind (wpAny_holding (len_hint (A := X.A.in1.in1) hm F1 hb rr I4.env0.in1.in1 I4 (by rw [upd_ne (ne_of_none ha2 hit)]; exact ha2) hg (lenX_put hvq hit) hn fun b s5 I6 => ?_))
  have eo5 := itO_get I6 hItO
  have st5 : s5.heap.IsListIter it l 0 := ⟨_, eo5, rfl, rfl⟩
  have I7 := inv_drop I6 hItO'
  rw [dropH_upd hit] at I7
  obtain ⟨z, its, kk, r3, hl3, e3⟩ := I7.lstM upd_same
  cases r3
  refine wpAny_ite_split (fun _ => ?_) (fun _ => wpAny_pure ⟨plainId_quiet PySem.F.plain_extend_loop _, ext_loop (A1 := X.A.in1) hh fr hq hz fin zs.length 0 s5 (by omega) I7 fp st5⟩)
  refine wpAny_bind (wpAny_rule ?_)
  refine wpAny_bind ?_
  show wpAny _ _ (updateSeq q (·.push .none) >>= fun _ => updateSeq q (·.pop)) _ _ _
  refine wpAny_bind (wpAny_updateSeq e3 rfl ?_)
  have I8 := I7.lset (f := (·.push Value.none)) (its' := [Value.none]) (ys := [.non]) (t' := s5.toks) upd_same e3 (by simp) (.cons rfl .nil) (by rw [List.length_singleton, sizeLine_eq]; decide)
  obtain ⟨z4, its4, k4, r4, hl4, e4⟩ := I8.lstM upd_same
  obtain ⟨u4, rfl, ru4⟩ := r4.one
  refine wpAny_updateSeq e4 rfl ?_ (by show 1 ≤ sizeLine; rw [sizeLine_eq]; decide) (by show 0 ≤ sizeLine + 1; exact Nat.zero_le _)
  have I9 := I8.lset (f := (·.pop)) (its := [u4]) (its' := []) (ys := []) (t' := s5.toks) upd_same e4 (by rfl) .nil (Nat.zero_le _)
  rw [upd_upd, upd_upd] at I9
  refine wpAny_pure ⟨plainId_quiet PySem.F.plain_extend_loop _, ext_loop (A1 := X.A.in1) hh fr hq hz fin zs.length 0 _ (by omega) I9 fp ?_⟩
  obtain ⟨o, eo6, co, do_⟩ := st5
  exact ⟨o, by rw [PySem.Heap.get?_update_ne _ _ _ _ hneI, PySem.Heap.get?_update_ne _ _ _ _ hneI]; exact eo6, co, do_⟩
/-- an object of the class n: a list of the items of its list fl, where its gl has a length -/
noncomputable def listO (n fl gl : Str) (d : D) : Res D := match d with
  | .obj c ns vs => if c = n then (match lookF ns vs fl, lookF ns vs gl with
    | some (.lst ds), some (.lst es) => guard (ds.length ≤ sizeLine ∧ es.length ≤ sizeLine) (.ok (.lst ds))
    | some (.lst ds), some (.dt ks es) => guard (ds.length ≤ sizeLine ∧ ks.length ≤ sizeLine) (.ok (.lst ds))
    | _, _ => .bad) else .bad
  | _ => .bad
theorem cs_listO {c : Cf} {n : Str} (hcn : c.cm n = some C) : CallS c (mO c) (rListO c.K C fl gl) [true] (g1 (listO n fl gl)) := by
  intro σ S H vs ds Q ex m p
  obtain ⟨v, d, rfl, rfl, h⟩ := m.one
  replace p : PostG c σ S H (listO n fl gl d) (fun a S' H' => ∀ b, mO c H S' H' b a → Q b H') := p
  cases d with
  | obj c' ns vs =>
    unfold listO at p
    dsimp only at p
    split at p
    · rename_i hc
      subst hc
      split at p
      · rename_i ds es hd he
        obtain ⟨⟨z1, z2⟩, p⟩ := p.gd
        obtain ⟨q, C', dx, fs, rfl, h1, h2, rfl, h4⟩ := RpB.obj h ex
        rw [hcn] at h1; cases h1
        obtain ⟨v1, hv1, hr1⟩ := look_rp h4 hd
        obtain ⟨v2, hv2, hr2⟩ := look_rp h4 he
        cases hr1 with
        | @lst l xs _ a1 a2 =>
          cases hr2 with
          | @lst l2 ys _ b1 b2 =>
            exact ⟨q, dx, fs, l, xs, .ref l2, ys.length, rfl, h2, hv1, .inl (.inl (ex _ _ a1)), by rw [a2.length]; exact z1, hv2, .inl (.inl ⟨ys, .inl (.inl (ex _ _ b1)), rfl⟩), by rw [b2.length]; exact z2, fun q hq => PostG.kept p ex hq (.lst a2)⟩
      · rename_i ds ks es hd he
        obtain ⟨⟨z1, z2⟩, pk⟩ := p.gd
        obtain ⟨q, C', dx, fs, rfl, h1, h2, rfl, h4⟩ := RpB.obj h ex
        rw [hcn] at h1; cases h1
        obtain ⟨v1, hv1, hr1⟩ := look_rp h4 hd
        obtain ⟨v2, hv2, hr2⟩ := look_rp h4 he
        cases hr1 with
        | @lst l xs _ a1 a2 =>
          cases hr2 with
          | @dt l2 w kvs _ _ b1 b2 b3 =>
            subst b2
            exact ⟨q, dx, fs, l, xs, .ref l2, kvs.length, rfl, h2, hv1, .inl (.inl (ex _ _ a1)), by rw [a2.length]; exact z1, hv2, .inr ⟨l2, kvs, rfl, .inr ⟨_, ex _ _ b1⟩, rfl⟩, by simpa using z2, fun q hq => PostG.kept pk ex hq (.lst a2)⟩
      · exact p.elim
    · exact p.elim
  | _ => exact p.elim
end
end Dx
end S_DxP
section S_DxM
set_option Elab.async false
set_option linter.all false
set_option maxRecDepth 100000
namespace Dx
open PySem L2
def Rs {α : Type} (x : Res α) (Q : α → Prop) (E : Str → List Str → List D → Prop) : Prop := match x with
  | .ok a => Q a
  | .err n ns vs => E n ns vs
  | .bad => False
def nE : Str → List Str → List D → Prop := fun _ _ _ => False
def nE' : Rho → Str → List Str → List D → Prop := fun _ _ _ _ => False
def nR : Rho → Prop := fun _ => False
def Ss (o : SR) (N : Rho → Prop) (R : D → Prop) (B C : Rho → Prop) (E : Rho → Str → List Str → List D → Prop) : Prop := match o with
  | .nx r => N r
  | .rt d => R d
  | .bk r => B r
  | .ct r => C r
  | .er r n ns vs => E r n ns vs
  | .bad => False
section
variable {α β : Type} {Q Q' : α → Prop} {E E' : Str → List Str → List D → Prop}
theorem Rs.imp {x : Res α} (h : Rs x Q nE) (k : ∀ a, Q a → Q' a) : Rs x Q' E := by
  cases x with
  | ok a => exact k a h
  | err n ns vs => exact h.elim
  | bad => exact h.elim
theorem Rs.impE {x : Res α} (h : Rs x Q E) (k : ∀ a, Q a → Q' a) (l : ∀ n ns vs, E n ns vs → E' n ns vs) : Rs x Q' E' := by
  cases x with
  | ok a => exact k a h
  | err n ns vs => exact l _ _ _ h
  | bad => exact h.elim
theorem Rs.of {x : Res α} {a : α} (h : x = .ok a) (q : Q a) : Rs x Q E := by rw [h]; exact q
theorem Rs.ofE {x : Res α} {n : Str} {ns : List Str} {vs : List D} (h : x = .err n ns vs) (q : E n ns vs) : Rs x Q E := by rw [h]; exact q
theorem Rs.eq {x : Res α} {a : α} (h : Rs x (fun b => b = a) nE) : x = .ok a := by
  cases x with
  | ok b => exact congrArg _ h
  | err n ns vs => exact h.elim
  | bad => exact h.elim
theorem Rs.get {x : Res α} (h : Rs x Q nE) : ∃ a, x = .ok a ∧ Q a := by
  cases x with
  | ok a => exact ⟨a, rfl, h⟩
  | err n ns vs => exact h.elim
  | bad => exact h.elim
theorem Rs.errEq {x : Res α} {n : Str} {ns : List Str} {vs : List D} (h : Rs x (fun _ => False) fun a b c => a = n ∧ b = ns ∧ c = vs) : x = .err n ns vs := by
  cases x with
  | ok b => exact h.elim
  | err a b c => obtain ⟨rfl, rfl, rfl⟩ := h; rfl
  | bad => exact h.elim
theorem Rs.bind {x : Res β} {k : β → Res α} (h : Rs x (fun b => Rs (k b) Q E) E) : Rs (x.bind k) Q E := by
  cases x with
  | ok a => exact h
  | err n ns vs => exact h
  | bad => exact h
theorem rs_guard {p : Prop} {x : Res α} (h : p) (k : Rs x Q E) : Rs (guard p x) Q E := by rw [guard_pos h]; exact k
end
section
variable {Q : D → Prop} {E : Str → List Str → List D → Prop} {r : Rho} {f f1 f2 f3 : Rho → Res D} {fs : Rho → Res (List D)} {t u : Rho → Res Bool} {d : D} {i : Nat}
theorem rs_var (h : r[i]? = some (some d)) (q : Q d) : Rs (dVar i r) Q E := by unfold dVar; rw [h]; exact q
theorem rs_c (q : Q d) : Rs (dC d r) Q E := q
theorem rs_op {g : D → D → Res D} (h : Rs (f1 r) (fun a => Rs (f2 r) (fun b => Rs (g a b) Q E) E) E) : Rs (dOp g f1 f2 r) Q E := Rs.bind (h.impE (fun a q => Rs.bind q) fun _ _ _ z => z)
theorem rs_str {g : D → D → Res D} (h : Rs (f1 r) (fun a => Rs (asS a) (fun _ => Rs (f2 r) (fun b => Rs (g a b) Q E) E) E) E) : Rs (dStr g f1 f2 r) Q E := Rs.bind (h.impE (fun a q => Rs.bind (q.impE (fun _ q => Rs.bind q) fun _ _ _ z => z)) fun _ _ _ z => z)
theorem rs_asS {z : Str} {Q : Str → Prop} (q : Q z) : Rs (asS (.str z)) Q E := q
theorem rs_un {g : D → Res D} (h : Rs (f r) (fun a => Rs (g a) Q E) E) : Rs (dUn g f r) Q E := Rs.bind h
theorem rs_nil {Q : List D → Prop} (q : Q []) : Rs (dNil r) Q E := q
theorem rs_cons {Q : List D → Prop} (h : Rs (f r) (fun x => Rs (fs r) (fun xs => Q (x :: xs)) E) E) : Rs (dCons f fs r) Q E := Rs.bind (h.impE (fun a q => Rs.bind q) fun _ _ _ z => z)
theorem rs_call {g : List D → Res D} (h : Rs (fs r) (fun ds => Rs (g ds) Q E) E) : Rs (dCall g fs r) Q E := Rs.bind h
theorem rs_tup (h : Rs (fs r) (fun ds => ds.length ≤ sizeLine ∧ Q (.tup ds)) E) : Rs (dTup fs r) Q E := Rs.bind (h.impE (fun ds q => rs_guard q.1 q.2) fun _ _ _ z => z)
theorem rs_lst (h : Rs (fs r) (fun ds => ds.length ≤ sizeLine ∧ Q (.lst ds)) E) : Rs (dLst fs r) Q E := Rs.bind (h.impE (fun ds q => rs_guard q.1 q.2) fun _ _ _ z => z)
theorem rs_T {Q : Bool → Prop} (h : Rs (f r) (fun d => Rs (asB d) Q E) E) : Rs (dT f r) Q E := Rs.bind h
theorem rs_asB {b : Bool} {Q : Bool → Prop} (q : Q b) : Rs (asB (.bl b)) Q E := q
theorem rs_asI {b : Int} {Q : Int → Prop} (q : Q b) : Rs (asI (.int b)) Q E := q
theorem rs_not {Q : Bool → Prop} (h : Rs (t r) (fun b => Q (!b)) E) : Rs (dNot t r) Q E := Rs.bind h
theorem rs_and {Q : Bool → Prop} (h : Rs (t r) (fun a => Rs (u r) (fun b => Q (a && b)) nE) E) : Rs (dAnd t u r) Q E := Rs.bind (h.impE (fun a q => by
  cases a
  · obtain ⟨b, _, q⟩ := q.get
    exact q
  · exact q.impE (fun _ z => z) fun _ _ _ z => z.elim) fun _ _ _ z => z)
theorem rs_or {Q : Bool → Prop} (h : Rs (t r) (fun a => Rs (u r) (fun b => Q (a || b)) nE) E) : Rs (dOr t u r) Q E := Rs.bind (h.impE (fun a q => by
  cases a
  · exact q.impE (fun _ z => z) fun _ _ _ z => z.elim
  · obtain ⟨b, _, q⟩ := q.get
    exact q) fun _ _ _ z => z)
theorem rs_andc {Q : Bool → Prop} (h : Rs (t r) (fun a => (a = true → Rs (u r) Q E) ∧ (a = false → Q false)) E) : Rs (dAnd t u r) Q E := Rs.bind (h.impE (fun a q => by
  cases a
  · exact q.2 rfl
  · exact q.1 rfl) fun _ _ _ z => z)
theorem rs_orc {Q : Bool → Prop} (h : Rs (t r) (fun a => (a = true → Q true) ∧ (a = false → Rs (u r) Q E)) E) : Rs (dOr t u r) Q E := Rs.bind (h.impE (fun a q => by
  cases a
  · exact q.2 rfl
  · exact q.1 rfl) fun _ _ _ z => z)
theorem rs_andV (h : Rs (f1 r) (fun a => Rs (asB a) (fun a => Rs (f2 r) (fun b => Rs (asB b) (fun b => Q (.bl (a && b))) nE) nE) E) E) : Rs (dAndV f1 f2 r) Q E := Rs.bind (h.impE (fun a q => Rs.bind (q.impE (fun a q => by
  obtain ⟨b, e, q⟩ := q.get
  cases b with
  | bl b =>
    cases a
    · exact q
    · exact Rs.of e q
  | _ => exact q.elim) fun _ _ _ z => z)) fun _ _ _ z => z)
theorem rs_orV (h : Rs (f1 r) (fun a => Rs (asB a) (fun a => Rs (f2 r) (fun b => Rs (asB b) (fun b => Q (.bl (a || b))) nE) nE) E) E) : Rs (dOrV f1 f2 r) Q E := Rs.bind (h.impE (fun a q => Rs.bind (q.impE (fun a q => by
  obtain ⟨b, e, q⟩ := q.get
  cases b with
  | bl b =>
    cases a
    · exact Rs.of e q
    · exact q
  | _ => exact q.elim) fun _ _ _ z => z)) fun _ _ _ z => z)
theorem rs_andVc (h : Rs (f1 r) (fun a => Rs (asB a) (fun a => (a = true → Rs (f2 r) Q E) ∧ (a = false → Q (.bl false))) E) E) : Rs (dAndV f1 f2 r) Q E := Rs.bind (h.impE (fun a q => Rs.bind (q.impE (fun a q => by
  cases a
  · exact q.2 rfl
  · exact q.1 rfl) fun _ _ _ z => z)) fun _ _ _ z => z)
theorem rs_orVc (h : Rs (f1 r) (fun a => Rs (asB a) (fun a => (a = true → Q (.bl true)) ∧ (a = false → Rs (f2 r) Q E)) E) E) : Rs (dOrV f1 f2 r) Q E := Rs.bind (h.impE (fun a q => Rs.bind (q.impE (fun a q => by
  cases a
  · exact q.2 rfl
  · exact q.1 rfl) fun _ _ _ z => z)) fun _ _ _ z => z)
theorem rs_notV (h : Rs (f r) (fun a => Rs (asB a) (fun b => Q (.bl (!b))) E) E) : Rs (dNotV f r) Q E := Rs.bind (h.impE (fun a q => Rs.bind q) fun _ _ _ z => z)
theorem rs_ifx {α : Type} {Q : α → Prop} {f g : Rho → Res α} (h : Rs (t r) (fun b => (b = true → Rs (f r) Q E) ∧ (b = false → Rs (g r) Q E)) E) : Rs (dIf t f g r) Q E := Rs.bind (h.impE (fun a q => by
  cases a
  · exact q.2 rfl
  · exact q.1 rfl) fun _ _ _ z => z)
theorem rs_tru {Q : Bool → Prop} (h : Rs (f r) (fun d => Rs (truB d) Q E) E) : Rs (dTru f r) Q E := Rs.bind h
theorem rs_truB {b : Bool} {Q : Bool → Prop} (q : Q b) : Rs (truB (.bl b)) Q E := q
theorem rs_truI {b : Int} {Q : Bool → Prop} (q : Q (b != 0)) : Rs (truB (.int b)) Q E := q
theorem rs_truL {ds : List D} {Q : Bool → Prop} (q : Q (!ds.isEmpty)) : Rs (truB (.lst ds)) Q E := q
theorem rs_truT {ds : List D} {Q : Bool → Prop} (q : Q (!ds.isEmpty)) : Rs (truB (.tup ds)) Q E := q
theorem rs_truN {Q : Bool → Prop} (q : Q false) : Rs (truB .non) Q E := q
theorem rs_chain {g g' : D → D → Res D} (h : Rs (f1 r) (fun x => Rs (f2 r) (fun y => Rs (g x y) (fun z => Rs (asB z) (fun a => Rs (f3 r) (fun w => Rs (g' y w) (fun e => Rs (asB e) (fun b => Q (.bl (a && b))) nE) nE) nE) E) E) E) E) : Rs (dChain g g' f1 f2 f3 r) Q E :=
  Rs.bind (h.impE (fun x q => Rs.bind (q.impE (fun y q => Rs.bind (q.impE (fun z q => Rs.bind (q.impE (fun a q => by
    obtain ⟨w, e1, q⟩ := q.get
    obtain ⟨e, e2, q⟩ := q.get
    cases e with
    | bl b =>
      cases a
      · exact q
      · exact Rs.bind (Rs.of e1 (Rs.of e2 q))
    | _ => exact q.elim) fun _ _ _ z => z)) fun _ _ _ z => z)) fun _ _ _ z => z)) fun _ _ _ z => z)
theorem rs_noP {Q : Option Int → Prop} (q : Q none) : Rs (dNoP r) Q E := q
theorem rs_part {Q : Option Int → Prop} (h : Rs (f r) (fun d => Rs (asI d) (fun i => Q (some i)) E) E) : Rs (dPart f r) Q E := Rs.bind (h.impE (fun a q => Rs.bind q) fun _ _ _ z => z)
theorem rs_sl {g : D → Option Int → Option Int → Res D} {fl fh : Rho → Res (Option Int)} (h : Rs (f r) (fun d => Rs (fl r) (fun l => Rs (fh r) (fun k => Rs (g d l k) Q E) E) E) E) : Rs (dSl g f fl fh r) Q E := Rs.bind (h.impE (fun a q => Rs.bind (q.impE (fun _ q => Rs.bind q) fun _ _ _ z => z)) fun _ _ _ z => z)
theorem rs_it {g : D → Res (List D)} {Q : List D → Prop} (h : Rs (f r) (fun d => Rs (g d) Q E) E) : Rs (dIt g f r) Q E := Rs.bind h
theorem rs_its {g : List D → Res (List D)} {Q : List D → Prop} (h : Rs (fs r) (fun d => Rs (g d) Q E) E) : Rs (dIts g fs r) Q E := Rs.bind h
theorem rs_yes {Q : Bool → Prop} (q : Q true) : Rs (dYes r) Q E := q
theorem rs_meth {n m : Str} {F : List D → Res D} (h : Rs (f r) (fun x => Rs (isObj n m x) (fun _ => Rs (fs r) (fun ds => Rs (F (x :: ds)) Q E) E) E) E) : Rs (dMeth n m F f fs r) Q E := Rs.bind (h.impE (fun a q => Rs.bind (q.impE (fun _ q => Rs.bind q) fun _ _ _ z => z)) fun _ _ _ z => z)
theorem rs_isObj {n m : Str} {ns : List Str} {vs : List D} {Q : Unit → Prop} (h : m ∉ ns) (q : Q ()) : Rs (isObj n m (.obj n ns vs)) Q E := by
  show Rs (if n = n ∧ m ∉ ns then .ok () else .bad) Q E
  rw [if_pos ⟨rfl, h⟩]; exact q
theorem rs_fld {n fl : Str} {ns : List Str} {vs : List D} (h : lookF ns vs fl = some d) (q : Q d) : Rs (fldD n fl (.obj n ns vs)) Q E := by
  show Rs (if n = n then (match lookF ns vs fl with | some d => .ok d | none => .bad) else .bad) Q E
  rw [if_pos rfl, h]; exact q
end
abbrev Sg (l : List Nat) : Str := ⟨l.toArray⟩
theorem ST_len (l : List Nat) : (Sg l).length = l.length := by simp [Sg, Str.length]
theorem ST_app (a b : List Nat) : Sg a ++ Sg b = Sg (a ++ b) := TL.ext_tl (by rw [TL.tl_append])
theorem ST_inj {a b : List Nat} : Sg a = Sg b ↔ a = b := ⟨fun h => congrArg TL.tl h, fun h => by rw [h]⟩
theorem ST_dec (a b : List Nat) : decide (Sg a = Sg b) = decide (a = b) := by
  by_cases h : a = b
  · subst h; simp
  · simp [h, ST_inj]
section
variable {Q : D → Prop} {E : Str → List Str → List D → Prop} {i j : Int} {a b : List Nat} {ds es : List D} {d e : D}
theorem rs_add (q : Q (.int (i + j))) : Rs (addD (.int i) (.int j)) Q E := q
theorem rs_addS (h : a.length + b.length ≤ sizeLine) (q : Q (.str (Sg (a ++ b)))) : Rs (addD (.str (Sg a)) (.str (Sg b))) Q E := rs_guard (by rw [ST_len, ST_len]; exact h) (by rw [ST_app]; exact q)
theorem rs_addT (h : ds.length + es.length ≤ sizeLine) (q : Q (.tup (ds ++ es))) : Rs (addD (.tup ds) (.tup es)) Q E := rs_guard h q
theorem rs_addLL (h : ds.length + es.length ≤ sizeLine) (q : Q (.lst (ds ++ es))) : Rs (addD (.lst ds) (.lst es)) Q E := rs_guard h q
theorem rs_addLO (h : ds.length + es.length ≤ sizeLine) (q : Q (.lst (ds ++ es))) : Rs (addL (.lst ds) (.lst es)) Q E := rs_guard h q
theorem rs_sub (q : Q (.int (i - j))) : Rs (subD (.int i) (.int j)) Q E := q
theorem rs_neg (q : Q (.int (-i))) : Rs (negD (.int i)) Q E := q
theorem rs_mul (h : smallI i ∨ smallI j) (q : Q (.int (i * j))) : Rs (mulX (.int i) (.int j)) Q E := rs_guard h q
theorem rs_mulS (h : j < 2 ^ 60 ∧ -(2 ^ 60) < j ∧ a.length * j.toNat ≤ sizeLine) (q : Q (.str (Sg (List.replicate j.toNat a).flatten))) : Rs (mulX (.str (Sg a)) (.int j)) Q E := rs_guard (by rw [ST_len]; exact h) q
theorem rs_mulL (h : 0 ≤ j ∧ j < 2 ^ 60 ∧ ds.length * j.toNat ≤ sizeLine) (q : Q (.lst (List.replicate j.toNat ds).flatten)) : Rs (mulX (.lst ds) (.int j)) Q E := rs_guard h q
theorem rs_fdiv (h : 0 < j ∧ j < 4611686018427387904) (q : Q (.int (i / j))) : Rs (fdivD (.int i) (.int j)) Q E := by
  show Rs (if 0 < j then guard (j < 4611686018427387904) (.ok (.int (i / j))) else _) Q E
  rw [if_pos h.1]; exact rs_guard h.2 q
theorem rs_mod (h : 0 < j) (q : Q (.int (i % j))) : Rs (modD (.int i) (.int j)) Q E := rs_guard h q
theorem rs_eqI (q : Q (.bl (decide (i = j)))) : Rs (eqD (.int i) (.int j)) Q E := q
theorem rs_neI (q : Q (.bl (!decide (i = j)))) : Rs (neD (.int i) (.int j)) Q E := q
theorem rs_eqS (q : Q (.bl (decide (a = b)))) : Rs (eqD (.str (Sg a)) (.str (Sg b))) Q E := by
  show Q (.bl (decide (Sg a = Sg b)))
  rw [ST_dec]; exact q
theorem rs_neS (q : Q (.bl (!decide (a = b)))) : Rs (neD (.str (Sg a)) (.str (Sg b))) Q E := by
  show Q (.bl (!decide (Sg a = Sg b)))
  rw [ST_dec]; exact q
theorem rs_eqB {x y : Bool} (q : Q (.bl (decide (x = y)))) : Rs (eqD (.bl x) (.bl y)) Q E := q
theorem rs_neB {x y : Bool} (q : Q (.bl (!decide (x = y)))) : Rs (neD (.bl x) (.bl y)) Q E := q
theorem rs_lt (q : Q (.bl (decide (i < j)))) : Rs (ltD (.int i) (.int j)) Q E := q
theorem rs_le (q : Q (.bl (decide (i ≤ j)))) : Rs (leD (.int i) (.int j)) Q E := q
theorem rs_gt (q : Q (.bl (decide (j < i)))) : Rs (gtD (.int i) (.int j)) Q E := q
theorem rs_ge (q : Q (.bl (decide (j ≤ i)))) : Rs (geD (.int i) (.int j)) Q E := q
theorem rs_is (q : Q (.bl (isN d))) : Rs (isD false d .non) Q E := q
theorem rs_isn (q : Q (.bl (!isN d))) : Rs (isD true d .non) Q E := q
theorem rs_inS {n : Nat} (q : Q (.bl (decide (n ∈ b)))) : Rs (inD (.str (Sg [n])) (.str (Sg b))) Q E := q
theorem rs_ninS {n : Nat} (q : Q (.bl (!decide (n ∈ b)))) : Rs (ninD (.str (Sg [n])) (.str (Sg b))) Q E := q
theorem rs_lenS (h : a.length ≤ sizeLine) (q : Q (.int a.length)) : Rs (g1 lenD [.str (Sg a)]) Q E := rs_guard (by rw [ST_len]; exact h) (by show Q _; rw [ST_len]; exact q)
theorem rs_lenL (q : Q (.int ds.length)) : Rs (g1 lenD [.lst ds]) Q E := q
theorem rs_lenF (q : Q (.int ds.length)) : Rs (g1 lenD [.fz ds]) Q E := q
theorem rs_lenT (q : Q (.int ds.length)) : Rs (g1 lenD [.tup ds]) Q E := q
theorem rs_int (q : Q (.int i)) : Rs (g1 intD [.int i]) Q E := q
theorem rs_intB {x : Bool} (q : Q (.int (if x then 1 else 0))) : Rs (g1 intD [.bl x]) Q E := q
theorem rs_abs (q : Q (.int (if i < 0 then -i else i))) : Rs (g1 absD [.int i]) Q E := q
theorem rs_listL (q : Q (.lst ds)) : Rs (g1 listD [.lst ds]) Q E := q
theorem rs_listT (q : Q (.lst ds)) : Rs (g1 listD [.tup ds]) Q E := q
theorem rs_tupL (q : Q (.tup ds)) : Rs (g1 tupleD [.lst ds]) Q E := q
theorem rs_tupT (q : Q (.tup ds)) : Rs (g1 tupleD [.tup ds]) Q E := q
theorem rs_ixL (h : atI ds i = some d) (q : Q d) : Rs (ixD (.lst ds) (.int i)) Q E := by
  show Rs (match atI ds i with | some d => Res.ok d | none => Res.bad) Q E
  rw [h]; exact q
theorem rs_ixF (h : atI ds i = some d) (q : Q d) : Rs (ixD (.fz ds) (.int i)) Q E := by
  show Rs (match atI ds i with | some d => Res.ok d | none => Res.bad) Q E
  rw [h]; exact q
theorem rs_ixT (h : atI ds i = some d) (q : Q d) : Rs (ixD (.tup ds) (.int i)) Q E := by
  show Rs (match atI ds i with | some d => Res.ok d | none => Res.bad) Q E
  rw [h]; exact q
theorem rs_ixS {n : Nat} (h : a.length ≤ sizeLine ∧ atI a i = some n) (q : Q (.str (Sg [n]))) : Rs (ixD (.str (Sg a)) (.int i)) Q E := rs_guard (by rw [ST_len]; exact h.1) (by
  show Rs (match atI a i with | some n => Res.ok (D.str ⟨#[n]⟩) | none => Res.bad) Q E
  rw [h.2]; exact q)
theorem rs_slL {lo hi : Option Int} (q : Q (.lst (cutL ds lo hi))) : Rs (slD (.lst ds) lo hi) Q E := q
theorem rs_slO {lo hi : Option Int} (q : Q (.lst (cutL ds lo hi))) : Rs (slL (.lst ds) lo hi) Q E := q
theorem rs_slT {lo hi : Option Int} (q : Q (.tup (cutL ds lo hi))) : Rs (slD (.tup ds) lo hi) Q E := q
theorem cutS_ST {lo hi : Option Int} : cutS (Sg a) lo hi = Sg (cutL a lo hi) := by
  unfold cutS cutL
  rw [ST_len]
theorem rs_slS {lo hi : Option Int} (h : a.length ≤ sizeLine) (q : Q (.str (Sg (cutL a lo hi)))) : Rs (slD (.str (Sg a)) lo hi) Q E := rs_guard (by rw [ST_len]; exact h) (by rw [cutS_ST]; exact q)
theorem rs_rng1 {n : Nat} {Q : List D → Prop} (h : n < 4611686018427387904) (q : Q (rngL 0 n)) : Rs (rng1 [.int (n : Int)]) Q E := rs_guard (by omega) (by rw [Int.toNat_natCast]; exact q)
theorem rs_itsL {Q : List D → Prop} (q : Q ds) : Rs (itemsL (.lst ds)) Q E := q
theorem rs_itsT {Q : List D → Prop} (q : Q ds) : Rs (itemsT (.tup ds)) Q E := q
theorem rs_itsS {Q : List D → Prop} (q : Q (a.map fun n => .str (Sg [n]))) : Rs (itemsS (.str (Sg a))) Q E := q
theorem rs_enL {Q : List D → Prop} (q : Q (numd 0 ds)) : Rs (enumL (.lst ds)) Q E := q
theorem rs_enT {Q : List D → Prop} (q : Q (numd 0 ds)) : Rs (enumT (.tup ds)) Q E := q
theorem rs_enS {Q : List D → Prop} (q : Q (numd 0 (a.map fun n => .str (Sg [n])))) : Rs (enumS (.str (Sg a))) Q E := q
theorem rs_isi {T n : String} {b : Bool} (h1 : tyN d = some n) (h2 : kitB n T = some b) (q : Q (.bl b)) : Rs (isiD T d) Q E := by unfold isiD; rw [h1]; dsimp only; rw [h2]; exact q
end
section
variable {N B C : Rho → Prop} {R : D → Prop} {E : Rho → Str → List Str → List D → Prop} {r : Rho} {f f1 f2 fi : Rho → Res D} {fs : Rho → Res (List D)} {t : Rho → Res Bool} {d : D} {F K : Rho → SR} {i j : Nat}
theorem Ss.imp {N' B' C' : Rho → Prop} {R' : D → Prop} {E' : Rho → Str → List Str → List D → Prop} {o : SR} (h : Ss o N R B C E) (hn : ∀ r, N r → N' r) (hr : ∀ d, R d → R' d) (hb : ∀ r, B r → B' r) (hc : ∀ r, C r → C' r) (he : ∀ r n ns vs, E r n ns vs → E' r n ns vs) : Ss o N' R' B' C' E' := by
  cases o with
  | nx r => exact hn _ h
  | rt d => exact hr _ h
  | bk r => exact hb _ h
  | ct r => exact hc _ h
  | er r n ns vs => exact he _ _ _ _ h
  | bad => exact h
theorem ss_nx (h : N r) : Ss (.nx r) N R B C E := h
theorem ss_bk (h : B r) : Ss (.bk r) N R B C E := h
theorem ss_ct (h : C r) : Ss (.ct r) N R B C E := h
theorem ss_lift {α : Type} {x : Res α} {k : α → SR} (h : Rs x (fun a => Ss (k a) N R B C E) (E r)) : Ss (liftS r x k) N R B C E := by
  cases x with
  | ok a => exact h
  | err n ns vs => exact h
  | bad => exact h
theorem ss_seq (h : Ss (F r) (fun r' => Ss (K r') N R B C E) R B C E) : Ss (seqF F K r) N R B C E := by
  unfold seqF
  cases e : F r with
  | nx r' => rw [e] at h; exact h
  | rt d => rw [e] at h; exact h
  | bk r => rw [e] at h; exact h
  | ct r => rw [e] at h; exact h
  | er r n ns vs => rw [e] at h; exact h
  | bad => rw [e] at h; exact h
theorem ss_set (h : Rs (f r) (fun d => N (r.set i (some d))) (E r)) : Ss (setF i f r) N R B C E := ss_lift h
theorem ss_ret (h : Rs (f r) R (E r)) : Ss (retF f r) N R B C E := ss_lift h
theorem ss_drop (h : Rs (f r) (fun _ => N r) (E r)) : Ss (dropF f r) N R B C E := ss_lift h
theorem ss_if (h : Rs (t r) (fun b => (b = true → Ss (F r) N R B C E) ∧ (b = false → Ss (K r) N R B C E)) (E r)) : Ss (ifF t F K r) N R B C E := ss_lift (h.impE (fun b q => by
  cases b
  · exact q.2 rfl
  · exact q.1 rfl) fun _ _ _ z => z)
theorem ss_app {ds : List D} (h1 : r[i]? = some (some (.lst ds))) (h : Rs (f r) (fun d => ds.length < sizeLine ∧ N (r.set i (some (.lst (ds ++ [d]))))) (E r)) : Ss (appF i f r) N R B C E := by
  unfold appF
  refine ss_lift (Rs.of (a := ds) (by unfold ownL; rw [h1]) (ss_lift (h.impE (fun d q => ?_) fun _ _ _ z => z)))
  rw [guardS_pos q.1]; exact q.2
theorem ss_asg {tg : D → Rho → Res Rho} (h : Rs (f r) (fun d => ∃ r', tg d r = .ok r' ∧ N r') (E r)) : Ss (asgF tg f r) N R B C E := ss_lift (h.impE (fun d q => by
  obtain ⟨r', e, q⟩ := q
  rw [e]; exact q) fun _ _ _ z => z)
theorem ss_par (h : Rs (f1 r) (fun d => Rs (f2 r) (fun e => N ((r.set i (some d)).set j (some e))) (E r)) (E r)) : Ss (parF i j f1 f2 r) N R B C E := ss_lift (rs_cons (h.impE (fun d q => rs_cons (q.impE (fun e q => rs_nil q) fun _ _ _ z => z)) fun _ _ _ z => z))
theorem ss_aug {g : D → D → Res D} (h : Rs (dVar i r) (fun x => Rs (f r) (fun y => Rs (g x y) (fun z => N (r.set i (some z))) (E r)) (E r)) (E r)) : Ss (augF i g f r) N R B C E := ss_lift (h.impE (fun x q => ss_lift (q.impE (fun y q => ss_lift q) fun _ _ _ z => z)) fun _ _ _ z => z)
theorem rs_ints {g : Int → Int → Int} {Q : D → Prop} {E : Str → List Str → List D → Prop} {i j : Int} (q : Q (.int (g i j))) : Rs (intsD g (.int i) (.int j)) Q E := q
theorem ss_raise {n : Str} {ns : List Str} {rev : Bool} (h : Rs (fs r) (fun ds => ds.length = ns.length ∧ E r n ns (if rev then ds.reverse else ds)) (E r)) : Ss (raiF n ns rev fs r) N R B C E := ss_lift (h.impE (fun ds q => by
  rw [if_pos q.1]; exact q.2) fun _ _ _ z => z)
theorem ss_sto {ds : List D} {k : Int} {n : Nat} (h : Rs (f r) (fun d => r[i]? = some (some (.lst ds)) ∧ Rs (fi r) (fun x => x = .int k ∧ ixN ds.length k = some n ∧ N (r.set i (some (.lst (ds.set n d))))) (E r)) (E r)) : Ss (stoF i fi f r) N R B C E := ss_lift (h.impE (fun d q => ss_lift (Rs.of (a := ds) (by unfold ownL; rw [q.1]) (ss_lift (q.2.impE (fun x q => by
  obtain ⟨rfl, h2, h3⟩ := q
  refine ss_lift ?_
  show Ss (match ixN ds.length k with | some j => SR.nx (r.set i (some (.lst (ds.set j d)))) | none => .bad) N R B C E
  rw [h2]; exact h3) fun _ _ _ z => z)))) fun _ _ _ z => z)
theorem ss_fst {n fl : Str} {ns : List Str} {vs : List D} (h : Rs (f r) (fun d => r[i]? = some (some (.obj n ns vs)) ∧ ns.length < 1000 ∧ N (r.set i (some (.obj n (putN fl d ns vs).1 (putN fl d ns vs).2)))) (E r)) : Ss (fstF i n fl f r) N R B C E := ss_lift (h.impE (fun d q => by
  rw [q.1]
  show Ss (if n = n ∧ ns.length < 1000 then _ else _) N R B C E
  rw [if_pos ⟨rfl, q.2.1⟩]; exact q.2.2) fun _ _ _ z => z)
theorem ss_cut {N' : Rho → Prop} {o : SR} (M : Rho → Prop) (h : Ss o M R B C E) (k : ∀ r, M r → N' r) : Ss o N' R B C E := h.imp k (fun _ z => z) (fun _ z => z) (fun _ z => z) fun _ _ _ _ z => z
theorem ss_loop {tg : D → Rho → Res Rho} (I : Nat → Rho → Prop) : ∀ (ds : List D) (k : Nat) (r : Rho), I k r →
    (∀ i d r, ds[i]? = some d → I (k + i) r → ∃ r1, tg d r = .ok r1 ∧ Ss (F r1) (I (k + i + 1)) R N (I (k + i + 1)) E) → (∀ r, I (k + ds.length) r → N r) → Ss (loopF tg F ds r) N R B C E
  | [], k, r, h0, _, he => he r h0
  | d :: ds, k, r, h0, hs, he => by
    obtain ⟨r1, e1, h1⟩ := hs 0 d r rfl h0
    have go : ∀ r2, I (k + 1) r2 → Ss (loopF tg F ds r2) N R B C E := fun r2 h2 => ss_loop I ds (k + 1) r2 h2 (fun i d r h hi => by
      have z := hs (i + 1) d r (by simpa using h) (by rw [show k + (i + 1) = k + 1 + i from by omega]; exact hi)
      rw [show k + (i + 1) = k + 1 + i from by omega] at z
      exact z) fun r h => he r (by rw [List.length_cons, show k + (ds.length + 1) = k + 1 + ds.length from by omega]; exact h)
    rw [loopF, e1]
    dsimp only
    cases e : F r1 with
    | nx r2 => rw [e] at h1; exact go r2 h1
    | ct r2 => rw [e] at h1; exact go r2 h1
    | bk r2 => rw [e] at h1; exact h1
    | rt d => rw [e] at h1; exact h1
    | er r n ns vs => rw [e] at h1; exact h1
    | bad => rw [e] at h1; exact h1
/-- a for, by an invariant at each number of items -/
theorem ss_for {its : Rho → Res (List D)} {tg : D → Rho → Res Rho} (I : Nat → Rho → Prop) (h : Rs (its r) (fun ds => I 0 r ∧ (∀ i d r, ds[i]? = some d → I i r → ∃ r1, tg d r = .ok r1 ∧ Ss (F r1) (I (i + 1)) R N (I (i + 1)) E) ∧ ∀ r, I ds.length r → N r) (E r)) : Ss (forF its tg F r) N R B C E :=
  ss_lift (h.impE (fun ds q => ss_loop I ds 0 r q.1 (fun i d r h1 h2 => by
    have z := q.2.1 i d r h1 (by rw [Nat.zero_add] at h2; exact h2)
    rw [Nat.zero_add]; exact z) fun r h => q.2.2 r (by rw [Nat.zero_add] at h; exact h)) fun _ _ _ z => z)
theorem rngL_get {a : Int} {n i : Nat} {d : D} (h : (rngL a n)[i]? = some d) : i < n ∧ d = .int (a + (i : Int)) := by
  unfold rngL at h
  rw [List.getElem?_map] at h
  by_cases hi : i < n
  · rw [List.getElem?_range hi] at h
    cases h
    exact ⟨hi, rfl⟩
  · rw [List.getElem?_eq_none (by simp; omega)] at h
    cases h
theorem rngL_len (a : Int) (n : Nat) : (rngL a n).length = n := by unfold rngL; simp
/-- for k in range(n) -/
theorem ss_rng {m : Nat} (n : Nat) (I : Nat → Rho → Prop) (h : Rs (f r) (fun d => d = .int (n : Int)) (E r)) (hn : n < 4611686018427387904) (h0 : I 0 r) (hs : ∀ i r, i < n → I i r → Ss (F (r.set m (some (.int (i : Int))))) (I (i + 1)) R N (I (i + 1)) E) (he : ∀ r, I n r → N r) : Ss (forF (dIts rng1 (dCons f dNil)) (tgN m) F r) N R B C E :=
  ss_for I (rs_its (rs_cons (h.impE (fun d q => by
    subst q
    refine rs_nil (rs_rng1 hn ⟨h0, fun i d r h1 h2 => ?_, fun r h => he r (by rw [rngL_len] at h; exact h)⟩)
    obtain ⟨h3, rfl⟩ := rngL_get h1
    exact ⟨_, rfl, by rw [Int.zero_add]; exact hs i r h3 h2⟩) fun _ _ _ z => z)))
/-- for x in xs -/
theorem ss_each {α : Type} {m : Nat} (g : α → D) (xs : List α) (I : Nat → Rho → Prop) (h : Rs (f r) (fun d => d = .lst (xs.map g)) (E r)) (h0 : I 0 r) (hs : ∀ i x r, xs[i]? = some x → I i r → Ss (F (r.set m (some (g x)))) (I (i + 1)) R N (I (i + 1)) E) (he : ∀ r, I xs.length r → N r) : Ss (forF (dIt itemsL f) (tgN m) F r) N R B C E :=
  ss_for I (rs_it (h.impE (fun d q => by
    subst q
    refine rs_itsL ⟨h0, fun i d r h1 h2 => ?_, fun r h => he r (by rw [List.length_map] at h; exact h)⟩
    rw [List.getElem?_map] at h1
    cases hx : xs[i]? with
    | none => rw [hx] at h1; cases h1
    | some x => rw [hx] at h1; cases h1; exact ⟨_, rfl, hs i x r hx h2⟩) fun _ _ _ z => z))
end
section
variable {Q : D → Prop} {E : Str → List Str → List D → Prop} {r : Rho} {f : Rho → Res D} {its : Rho → Res (List D)} {tg : D → Rho → Res Rho} {tt : Rho → Res Bool} {fe : Rho → Res D} {vs : List Nat}
theorem lc_mapX {α : Type} (c g : α → D) {rw : Rho} : ∀ xs : List α, (∀ x ∈ xs, ∃ r1, tg (c x) rw = .ok r1 ∧ tt r1 = .ok true ∧ Rs (fe r1) (fun e => e = g x) nE) → lcLoop tg tt fe rw (xs.map c) = .ok (xs.map g)
  | [], _ => rfl
  | x :: xs, h => by
    obtain ⟨r1, h1, h2, h3⟩ := h x (by simp)
    rw [List.map_cons, lcLoop, h1]
    dsimp only
    rw [h2]
    dsimp only
    rw [h3.eq]
    dsimp only
    rw [lc_mapX c g xs fun y hy => h y (by simp [hy])]
    rfl
theorem rs_lc {α : Type} (c g : α → D) (xs : List α) (hi : Rs (its r) (fun ds => ds = xs.map c) E) (hl : xs.length ≤ sizeLine) (hs : ∀ x ∈ xs, ∃ r1, tg (c x) (wipeR r vs) = .ok r1 ∧ tt r1 = .ok true ∧ Rs (fe r1) (fun e => e = g x) nE) (q : Q (.lst (xs.map g))) : Rs (dLc its tg tt fe vs r) Q E :=
  Rs.bind (hi.impE (fun ds e => by
    subst e
    refine rs_guard (by rw [List.length_map]; exact hl) ?_
    rw [lc_mapX c g xs hs]; exact q) fun _ _ _ z => z)
theorem rng0_map (n : Nat) : rngL 0 n = (List.range n).map fun (i : Nat) => D.int (i : Int) := by
  unfold rngL
  refine List.map_congr_left fun k _ => ?_
  rw [Int.zero_add]
/-- range(n) as the items of a comprehension -/
theorem rs_rngC {n : Nat} (h : Rs (f r) (fun d => d = .int (n : Int)) E) (hn : n < 4611686018427387904) : Rs (dIts rng1 (dCons f dNil) r) (fun ds => ds = (List.range n).map fun (i : Nat) => D.int (i : Int)) E :=
  rs_its (rs_cons (h.impE (fun d q => by subst q; exact rs_nil (rs_rng1 hn (rng0_map n))) fun _ _ _ z => z))
theorem rs_run {n : Nat} {F : Rho → SR} {as : List D} (h : Ss (F (startR n as)) (fun _ => Q .non) Q nR nR (fun _ => E)) : Rs (runF n false F as) Q E := by
  unfold runF
  cases e : F (startR n as) with
  | nx r => rw [e] at h; exact h
  | rt d => rw [e] at h; exact h
  | bk r => rw [e] at h; exact h.elim
  | ct r => rw [e] at h; exact h.elim
  | er r n ns vs => rw [e] at h; exact h
  | bad => rw [e] at h; exact h.elim
theorem rs_runI {n : Nat} {cls : Str} {F : Rho → SR} {as : List D} (h : Ss (F (startI n cls as)) (fun r => ∃ d, r[0]? = some (some d) ∧ Q d) (fun _ => False) nR nR (fun _ => E)) : Rs (runI n cls F as) Q E := by
  unfold runI
  cases e : F (startI n cls as) with
  | nx r => rw [e] at h; obtain ⟨d, h1, h2⟩ := h; dsimp only; rw [h1]; exact h2
  | rt d => rw [e] at h; exact h.elim
  | bk r => rw [e] at h; exact h.elim
  | ct r => rw [e] at h; exact h.elim
  | er r n ns vs => rw [e] at h; exact h
  | bad => rw [e] at h; exact h.elim
/-- a try -/
theorem ss_try {isM : Str → Option Bool} {i : Nat} {Fb Fs : Rho → SR} {N B C : Rho → Prop} {R : D → Prop} {E : Rho → Str → List Str → List D → Prop} (h : Ss (Fb r) N R B C fun r' n ns vs => isM n = some true ∧ Ss (Fs (r'.set i (some (.obj n ns vs)))) (fun r => N (r.set i none)) R (fun r => B (r.set i none)) (fun r => C (r.set i none)) nE') : Ss (tryF isM i Fb Fs r) N R B C E := by
  unfold tryF
  cases e : Fb r with
  | nx r => rw [e] at h; exact h
  | rt d => rw [e] at h; exact h
  | bk r => rw [e] at h; exact h
  | ct r => rw [e] at h; exact h
  | bad => rw [e] at h; exact h
  | er r' n ns vs =>
    rw [e] at h
    obtain ⟨h1, h2⟩ := h
    dsimp only
    rw [h1]
    dsimp only
    cases e2 : Fs (r'.set i (some (.obj n ns vs))) with
    | nx r => rw [e2] at h2; exact h2
    | rt d => rw [e2] at h2; exact h2
    | bk r => rw [e2] at h2; exact h2
    | ct r => rw [e2] at h2; exact h2
    | bad => rw [e2] at h2; exact h2
    | er r n ns vs => rw [e2] at h2; exact h2.elim
end
end Dx
namespace Dx
open PySem L2
theorem sz5 : (100000 : Nat) ≤ sizeLine := by decide
theorem small_of {i : Int} (h : -1000000000000 < i) (h' : i < 1000000000000) : smallI i := by unfold smallI; omega
def Fit : List Int → List Int → Prop
  | [], [] => True
  | v :: vs, l :: ls => 0 ≤ v ∧ v < l ∧ Fit vs ls
  | _, _ => False
theorem Fit.cons {vs : List Int} {l : Int} {ls : List Int} (h : Fit vs (l :: ls)) : ∃ v us, vs = v :: us ∧ 0 ≤ v ∧ v < l ∧ Fit us ls := by
  cases vs with
  | nil => exact h.elim
  | cons v us => exact ⟨v, us, rfl, h⟩
theorem Fit.nil {vs : List Int} (h : Fit vs []) : vs = [] := by
  cases vs with
  | nil => rfl
  | cons v us => exact h.elim
theorem Fit.len : ∀ {vs ls : List Int}, Fit vs ls → vs.length = ls.length
  | [], [], _ => rfl
  | v :: vs, l :: ls, h => by simp [Fit.len h.2.2]
  | [], _ :: _, h => h.elim
  | _ :: _, [], h => h.elim
theorem Fit.snoc : ∀ {vs ls : List Int} {v l : Int}, Fit vs ls → 0 ≤ v → v < l → Fit (vs ++ [v]) (ls ++ [l])
  | [], [], v, l, _, h1, h2 => ⟨h1, h2, trivial⟩
  | a :: vs, b :: ls, v, l, h, h1, h2 => ⟨h.1, h.2.1, Fit.snoc h.2.2 h1 h2⟩
  | [], _ :: _, _, _, h, _, _ => h.elim
  | _ :: _, [], _, _, h, _, _ => h.elim
theorem Fit.get : ∀ {vs ls : List Int} {k : Nat} {l : Int}, Fit vs ls → ls[k]? = some l → ∃ v, vs[k]? = some v ∧ 0 ≤ v ∧ v < l
  | [], [], _, _, _, h => by simp at h
  | v :: vs, l :: ls, 0, l', h, e => by simp at e; subst e; exact ⟨v, by simp, h.1, h.2.1⟩
  | v :: vs, l :: ls, k + 1, l', h, e => by
    obtain ⟨w, h1, h2⟩ := Fit.get (k := k) h.2.2 (by simpa using e)
    exact ⟨w, by simpa using h1, h2⟩
  | [], _ :: _, _, _, h, _ => h.elim
  | _ :: _, [], _, _, h, _ => h.elim
abbrev iL (ns : List Int) : D := .lst (ns.map D.int)
theorem take_snoc {α : Type} {xs : List α} {i : Nat} {x : α} (h : xs[i]? = some x) : xs.take (i + 1) = xs.take i ++ [x] := by
  rw [List.take_add_one, h]; rfl
end Dx
end S_DxM
section S_DxN
set_option Elab.async false
set_option linter.all false
set_option maxRecDepth 100000
namespace Dx
open PySem L2
def endB (a b : List Nat) : Bool := decide (b.length ≤ a.length) && decide (a.drop (a.length - b.length) = b)
def startB (a b : List Nat) : Bool := decide (b.length ≤ a.length) && decide (a.take b.length = b)
theorem beq_dec (a b : List Nat) : (a == b) = decide (a = b) := by
  by_cases h : a = b
  · subst h; simp
  · simp [h]
theorem end_ST (a b : List Nat) : Txt.endswith (Sg a) (Sg b) = endB a b := by
  unfold Txt.endswith endB
  rw [PySem.StrLaws.subAt_eq, ST_len, ST_len, Nat.zero_add]
  show (decide (b.length ≤ a.length) && ((a.drop (a.length - b.length)).take b.length == b)) = _
  by_cases h : b.length ≤ a.length
  · rw [List.take_of_length_le (by rw [List.length_drop]; omega), beq_dec]
  · rw [decide_eq_false h]; rfl
theorem start_ST (a b : List Nat) : Txt.startswith (Sg a) (Sg b) = startB a b := by
  unfold Txt.startswith startB
  rw [PySem.StrLaws.subAt_eq, ST_len, ST_len, Nat.zero_add]
  show (decide (b.length ≤ a.length) && ((a.drop 0).take b.length == b)) = _
  rw [List.drop_zero, beq_dec]
/-- split at one sign -/
abbrev spc (c : Nat) (a : List Nat) : List (List Nat) := TL.spl [c] 0 [] a
theorem split_ST (a : List Nat) (c : Nat) (hc : c < 256) : Txt.split (Sg a) (Sg [c]) = (spc c a).map Sg := by
  refine TL.map_tl_inj ?_
  rw [TL.split_spl _ _ (by show [c] ≠ []; simp) (TL.kind_ok (by show #[c].all _ = true; simp [hc])), List.map_map]
  show spc c a = _
  rw [show TL.tl ∘ Sg = id from rfl, List.map_id]
theorem allStr_map {α : Type} (g : α → List Nat) : ∀ xs : List α, allStr (xs.map fun x => .str (Sg (g x))) = some (xs.map fun x => Sg (g x))
  | [] => rfl
  | x :: xs => by rw [List.map_cons, allStr, allStr_map g xs]; rfl
theorem joinL_nil : ∀ xs : List (List Nat), TL.joinL [] xs = xs.flatten
  | [] => rfl
  | [a] => by simp [TL.joinL]
  | a :: b :: r => by rw [TL.joinL, List.nil_append, joinL_nil (b :: r)]; rfl
theorem join_ST (s : List Nat) (xs : List (List Nat)) : Txt.join (Sg s) (xs.map Sg) = Sg (TL.joinL s xs) := by
  rw [TL.join_eq]
  refine TL.ext_tl ?_
  rw [TL.tl_join, List.map_map, show TL.tl ∘ Sg = id from rfl, List.map_id]
section
variable {Q : D → Prop} {E : Str → List Str → List D → Prop} {a b : List Nat}
theorem rs_end (q : Q (.bl (endB a b))) : Rs (endD (.str (Sg a)) (.str (Sg b))) Q E := by
  show Q (.bl (Txt.endswith (Sg a) (Sg b)))
  rw [end_ST]; exact q
theorem rs_start (q : Q (.bl (startB a b))) : Rs (startD (.str (Sg a)) (.str (Sg b))) Q E := by
  show Q (.bl (Txt.startswith (Sg a) (Sg b)))
  rw [start_ST]; exact q
theorem rs_split {c : Nat} (h : c < 256 ∧ a.length + 2 ≤ sizeLine) (q : Q (.lst ((spc c a).map fun l => .str (Sg l)))) : Rs (splitD (.str (Sg a)) (.str (Sg [c]))) Q E := by
  refine rs_guard ⟨rfl, by rw [ST_len]; exact h.2⟩ ?_
  show Q (.lst (strsD (Txt.split (Sg a) (Sg [c]))))
  rw [split_ST a c h.1]
  unfold strsD
  rw [List.map_map]; exact q
theorem rs_joinS {α : Type} {g : α → List Nat} {xs : List α} (h : (xs.map fun x => (g x).length).sum ≤ 16777216) (q : Q (.str (Sg (xs.map g).flatten))) : Rs (joinD (.str (Sg [])) (.lst (xs.map fun x => .str (Sg (g x))))) Q E := by
  show Rs (joinZ (Sg []) (allStr (xs.map fun x => .str (Sg (g x))))) Q E
  rw [allStr_map]
  refine rs_guard ?_ ?_
  · rw [List.map_map]
    simp only [ST_len, Function.comp_def, List.length_nil, Nat.mul_zero, Nat.add_zero]
    exact h
  · have := join_ST [] (xs.map g)
    rw [List.map_map, joinL_nil] at this
    show Q (.str (Txt.join (Sg []) (xs.map (Sg ∘ g))))
    rw [this]; exact q
theorem rs_joinC {ns : List Nat} (h : ns.length ≤ 16777216) (q : Q (.str (Sg ns))) : Rs (joinD (.str (Sg [])) (.lst (ns.map fun n => .str (Sg [n])))) Q E := by
  refine rs_joinS (g := fun n => [n]) ?_ ?_
  · have : ∀ l : List Nat, (l.map fun n => ([n] : List Nat).length).sum = l.length := fun l => by
      induction l with
      | nil => rfl
      | cons a l ih => rw [List.map_cons, List.sum_cons, ih, List.length_cons]; simp; omega
    rw [this]; exact h
  · have : ∀ l : List Nat, (l.map fun n => ([n] : List Nat)).flatten = l := fun l => by
      induction l with
      | nil => rfl
      | cons a l ih => rw [List.map_cons, List.flatten_cons, ih]; rfl
    rw [this]; exact q
end
section
variable {Q : D → Prop} {E : Str → List Str → List D → Prop}
theorem rs_isi_non_bool  (q : Q (.bl false)) : Rs (isiD "bool" .non) Q E := rs_isi rfl (by decide +kernel) q
theorem rs_isi_non_int  (q : Q (.bl false)) : Rs (isiD "int" .non) Q E := rs_isi rfl (by decide +kernel) q
theorem rs_isi_non_str  (q : Q (.bl false)) : Rs (isiD "str" .non) Q E := rs_isi rfl (by decide +kernel) q
theorem rs_isi_non_tuple  (q : Q (.bl false)) : Rs (isiD "tuple" .non) Q E := rs_isi rfl (by decide +kernel) q
theorem rs_isi_non_list  (q : Q (.bl false)) : Rs (isiD "list" .non) Q E := rs_isi rfl (by decide +kernel) q
theorem rs_isi_bl_bool {x : Bool} (q : Q (.bl true)) : Rs (isiD "bool" (.bl x)) Q E := rs_isi rfl (by decide +kernel) q
theorem rs_isi_bl_int {x : Bool} (q : Q (.bl true)) : Rs (isiD "int" (.bl x)) Q E := rs_isi rfl (by decide +kernel) q
theorem rs_isi_bl_str {x : Bool} (q : Q (.bl false)) : Rs (isiD "str" (.bl x)) Q E := rs_isi rfl (by decide +kernel) q
theorem rs_isi_bl_tuple {x : Bool} (q : Q (.bl false)) : Rs (isiD "tuple" (.bl x)) Q E := rs_isi rfl (by decide +kernel) q
theorem rs_isi_bl_list {x : Bool} (q : Q (.bl false)) : Rs (isiD "list" (.bl x)) Q E := rs_isi rfl (by decide +kernel) q
theorem rs_isi_int_bool {x : Int} (q : Q (.bl false)) : Rs (isiD "bool" (.int x)) Q E := rs_isi rfl (by decide +kernel) q
theorem rs_isi_int_int {x : Int} (q : Q (.bl true)) : Rs (isiD "int" (.int x)) Q E := rs_isi rfl (by decide +kernel) q
theorem rs_isi_int_str {x : Int} (q : Q (.bl false)) : Rs (isiD "str" (.int x)) Q E := rs_isi rfl (by decide +kernel) q
theorem rs_isi_int_tuple {x : Int} (q : Q (.bl false)) : Rs (isiD "tuple" (.int x)) Q E := rs_isi rfl (by decide +kernel) q
theorem rs_isi_int_list {x : Int} (q : Q (.bl false)) : Rs (isiD "list" (.int x)) Q E := rs_isi rfl (by decide +kernel) q
theorem rs_isi_str_bool {x : Str} (q : Q (.bl false)) : Rs (isiD "bool" (.str x)) Q E := rs_isi rfl (by decide +kernel) q
theorem rs_isi_str_int {x : Str} (q : Q (.bl false)) : Rs (isiD "int" (.str x)) Q E := rs_isi rfl (by decide +kernel) q
theorem rs_isi_str_str {x : Str} (q : Q (.bl true)) : Rs (isiD "str" (.str x)) Q E := rs_isi rfl (by decide +kernel) q
theorem rs_isi_str_tuple {x : Str} (q : Q (.bl false)) : Rs (isiD "tuple" (.str x)) Q E := rs_isi rfl (by decide +kernel) q
theorem rs_isi_str_list {x : Str} (q : Q (.bl false)) : Rs (isiD "list" (.str x)) Q E := rs_isi rfl (by decide +kernel) q
theorem rs_isi_lst_bool {x : List D} (q : Q (.bl false)) : Rs (isiD "bool" (.lst x)) Q E := rs_isi rfl (by decide +kernel) q
theorem rs_isi_lst_int {x : List D} (q : Q (.bl false)) : Rs (isiD "int" (.lst x)) Q E := rs_isi rfl (by decide +kernel) q
theorem rs_isi_lst_str {x : List D} (q : Q (.bl false)) : Rs (isiD "str" (.lst x)) Q E := rs_isi rfl (by decide +kernel) q
theorem rs_isi_lst_tuple {x : List D} (q : Q (.bl false)) : Rs (isiD "tuple" (.lst x)) Q E := rs_isi rfl (by decide +kernel) q
theorem rs_isi_lst_list {x : List D} (q : Q (.bl true)) : Rs (isiD "list" (.lst x)) Q E := rs_isi rfl (by decide +kernel) q
theorem rs_isi_tup_bool {x : List D} (q : Q (.bl false)) : Rs (isiD "bool" (.tup x)) Q E := rs_isi rfl (by decide +kernel) q
theorem rs_isi_tup_int {x : List D} (q : Q (.bl false)) : Rs (isiD "int" (.tup x)) Q E := rs_isi rfl (by decide +kernel) q
theorem rs_isi_tup_str {x : List D} (q : Q (.bl false)) : Rs (isiD "str" (.tup x)) Q E := rs_isi rfl (by decide +kernel) q
theorem rs_isi_tup_tuple {x : List D} (q : Q (.bl true)) : Rs (isiD "tuple" (.tup x)) Q E := rs_isi rfl (by decide +kernel) q
theorem rs_isi_tup_list {x : List D} (q : Q (.bl false)) : Rs (isiD "list" (.tup x)) Q E := rs_isi rfl (by decide +kernel) q
end
theorem cut_take {α : Type} (a : List α) (k : Nat) : cutL a none (some (k : Int)) = a.take k := by
  unfold cutL
  rw [HT.sIx_none, HT.sIx_nat, List.drop_zero, Nat.sub_zero]
  by_cases h : k ≤ a.length
  · rw [Nat.min_eq_left h]
  · rw [Nat.min_eq_right (by omega), List.take_length, List.take_of_length_le (by omega)]
theorem cut_drop {α : Type} (a : List α) (k : Nat) : cutL a (some (k : Int)) none = a.drop k := by
  unfold cutL
  rw [HT.sIx_none, HT.sIx_nat]
  by_cases h : k ≤ a.length
  · rw [Nat.min_eq_left h, List.take_of_length_le (by rw [List.length_drop]; omega)]
  · rw [Nat.min_eq_right (by omega), Nat.sub_self, List.take_zero, List.drop_of_length_le (by omega)]
theorem cut_mid {α : Type} (a : List α) (j k : Nat) : cutL a (some (j : Int)) (some (k : Int)) = (a.take k).drop j := by
  unfold cutL
  rw [HT.sIx_nat, HT.sIx_nat, List.drop_take]
  by_cases h2 : j ≤ a.length
  · rw [Nat.min_eq_left h2]
    by_cases h : k ≤ a.length
    · rw [Nat.min_eq_left h]
    · rw [Nat.min_eq_right (by omega), List.take_of_length_le (by rw [List.length_drop]; omega), List.take_of_length_le (by rw [List.length_drop]; omega)]
  · rw [List.drop_of_length_le (show a.length ≤ j by omega), List.drop_of_length_le (by omega)]
    simp
end Dx
end S_DxN
section S_DxQ
set_option Elab.async false
set_option linter.all false
set_option maxRecDepth 100000
namespace Dx
open PySem L2
section
variable {Q : D → Prop} {E : Str → List Str → List D → Prop} {r : Rho} {f f1 : Rho → Res D} {fs : Rho → Res (List D)} {n fl gl : Str} {ns : List Str} {vs ds es : List D} {F : List D → Res D} {x d : D}
theorem rs_star {Q : List D → Prop} (h : Rs (f r) (fun d => Rs (items d) (fun xs => Rs (fs r) (fun ys => Q (xs ++ ys)) E) E) E) : Rs (dStar f fs r) Q E := Rs.bind (h.impE (fun a q => Rs.bind (q.impE (fun _ q => Rs.bind q) fun _ _ _ z => z)) fun _ _ _ z => z)
theorem rs_itemsL {Q : List D → Prop} (q : Q ds) : Rs (items (.lst ds)) Q E := q
theorem rs_itemsT {Q : List D → Prop} (q : Q ds) : Rs (items (.tup ds)) Q E := q
theorem rs_zipL {Q : List D → Prop} (q : Q (pairs ds es)) : Rs (zipL [.lst ds, .lst es]) Q E := q
theorem rs_zipS {a b : List Nat} {Q : List D → Prop} (q : Q (pairs (a.map fun n => .str (Sg [n])) (b.map fun n => .str (Sg [n])))) : Rs (zipS [.str (Sg a), .str (Sg b)]) Q E := q
theorem isCls_self : isCls n (.obj n ns vs) = true := by unfold isCls; exact decide_eq_true rfl
theorem rs_lenO {i : Int} (hF : F [.obj n ns vs] = .ok (.int i)) (hi : 0 ≤ i ∧ i < 2 ^ 63) (q : Q (.int i)) : Rs (g1 (lenO n F) [.obj n ns vs]) Q E := by
  show Rs (lenO n F (.obj n ns vs)) Q E
  unfold lenO
  rw [if_pos isCls_self, hF]
  exact rs_guard hi q
theorem rs_inO {neg b : Bool} (hF : F [.obj n ns vs, x] = .ok (.bl b)) (q : Q (.bl (if neg then !b else b))) : Rs (inO n neg F x (.obj n ns vs)) Q E := by
  unfold inO
  rw [if_pos isCls_self, hF]
  exact q
theorem rs_listO (h1 : lookF ns vs fl = some (.lst ds)) (h2 : lookF ns vs gl = some (.lst es)) (h3 : ds.length ≤ sizeLine) (h4 : es.length ≤ sizeLine) (q : Q (.lst ds)) : Rs (g1 (listO n fl gl) [.obj n ns vs]) Q E := by
  show Rs (listO n fl gl (.obj n ns vs)) Q E
  unfold listO
  dsimp only
  rw [if_pos rfl, h1, h2]
  exact rs_guard ⟨h3, h4⟩ q
theorem rs_itO {Q : List D → Prop} (h1 : lookF ns vs fl = some (.lst ds)) (q : Q ds) : Rs (itO n fl (.obj n ns vs)) Q E := by
  show Rs (if n = n then (match lookF ns vs fl with
    | some (.lst ds) => .ok ds
    | _ => .bad) else .bad) Q E
  rw [if_pos rfl, h1]
  exact q
end
end Dx
end S_DxQ
section S_DxR
set_option Elab.async false
set_option linter.all false
set_option maxRecDepth 100000
set_option maxHeartbeats 2000000
namespace Dx
open PySem L2 ItX
open PyProof.Rows hiding St
section
variable {X : Cx} {c : Cf} {L G G' : List Ow} {f f1 f2 : Rho → Res D} {e o a b : Expr} {es : List Expr} {pos apos p : Pos} {fs : Rho → Res (List D)} {n : Str} {C : Addr} {F : List D → Res D} {rm : Bool} {k : Nat} {fa : Addr} {fd : FuncData} {ps : List Str}
def keyD : D → Option Key
  | .int i => some (.inl i)
  | .str z => some (.inr z)
  | _ => none
def keyOf : Key → D
  | .inl i => .int i
  | .inr z => .str z
def getK {κ : Type} [DecidableEq κ] : List κ → List D → κ → Option D
  | k :: ks, v :: vs, x => if k = x then some v else getK ks vs x
  | _, _, _ => none
def putV {κ : Type} [DecidableEq κ] (ks : List κ) (vs : List D) (x : κ) (d : D) : List κ × List D := if (ks.any fun k => decide (k = x)) = true then (ks, List.zipWith (fun k v => if k = x then d else v) ks vs) else (ks ++ [x], vs ++ [d])
theorem key_v {K : PySem.W.Frag} {cm : CM} {S H : Hp} {v : V} {d : D} {k : Key} (h : RpB K cm S H v d) (q : keyD d = some k) : v = kV k := by
  cases d with
  | int i => cases q; exact h.int
  | str z => cases q; exact h.str
  | _ => cases q
theorem get_rp {κ : Type} [DecidableEq κ] {K : PySem.W.Frag} {cm : CM} {S : Hp} (k : κ) : ∀ {kvs : List (κ × V)} {ds : List D}, RpA K cm S (kvs.map (·.2)) ds →
    (∀ d, getK (kvs.map (·.1)) ds k = some d → ∃ v, valV kvs k = some v ∧ Rp K cm S v d) ∧ (getK (kvs.map (·.1)) ds k = none → valV kvs k = none)
  | [], ds, h => ⟨fun d q => by simp [getK] at q, fun _ => rfl⟩
  | (k', v') :: kvs, ds, h => by
    cases h with
    | @cons v vs d ds hd hr =>
      obtain ⟨g1, g2⟩ := get_rp k hr
      by_cases e : k' = k
      · rw [valV_pos (p := (k', v')) e]
        refine ⟨fun z q => ?_, fun q => ?_⟩
        · rw [List.map_cons, getK, if_pos e] at q
          cases q
          exact ⟨_, rfl, hd⟩
        · rw [List.map_cons, getK, if_pos e] at q
          cases q
      · rw [valV_neg (p := (k', v')) e]
        refine ⟨fun z q => ?_, fun q => ?_⟩
        · rw [List.map_cons, getK, if_neg e] at q
          exact g1 z q
        · rw [List.map_cons, getK, if_neg e] at q
          exact g2 q
theorem put_rp {κ : Type} [DecidableEq κ] {K : PySem.W.Frag} {cm : CM} {S : Hp} {k : κ} {v : V} {d : D} (hv : Rp K cm S v d) {kvs : List (κ × V)} {ds : List D} (h : RpA K cm S (kvs.map (·.2)) ds) :
    (putV (kvs.map (·.1)) ds k d).1 = (putK kvs k v).map (·.1) ∧ RpA K cm S ((putK kvs k v).map (·.2)) (putV (kvs.map (·.1)) ds k d).2 := by
  have hany : ((kvs.map (·.1)).any fun z => decide (z = k)) = (kvs.any fun kv => decide (kv.1 = k)) := by rw [List.any_map]; rfl
  unfold putV putK
  rw [hany]
  by_cases hm : (kvs.any fun kv => decide (kv.1 = k)) = true
  · rw [if_pos hm, if_pos hm]
    refine ⟨?_, ?_⟩
    · rw [List.map_map]
      refine List.map_congr_left fun p _ => ?_
      show p.1 = (if p.1 = k then (p.1, v) else p).1
      split <;> rfl
    · clear hm hany
      induction kvs generalizing ds with
      | nil => cases h; exact .nil
      | cons p kvs ih =>
        cases h with
        | @cons v' vs' d' ds' hd hr =>
          refine .cons ?_ (ih hr)
          show Rp K cm S (if p.1 = k then (p.1, v) else p).2 (if p.1 = k then d else d')
          split
          · exact hv
          · exact hd
  · rw [if_neg hm, if_neg hm]
    refine ⟨by simp, ?_⟩
    rw [List.map_append]
    exact h.app (.one hv)
/-- {} -/
def dD0 : Rho → Res D := fun _ => .ok (.dk [] [])
theorem de_dnew : PE X (.Dict [] [] pos) (tO c G dD0) := pe_imp pe_dnewK fun σ H Q ⟨S0, H0, S, r, ok, p⟩ => fun q hq => PostG.kept p ok.ex hq (.dk rfl .nil)
/-- k in d -/
def inK (neg : Bool) : D → D → Res D
  | k, .dk ks vs => match keyD k with
    | some x => .ok (.bl (if neg then !(getK ks vs x).isSome else (getK ks vs x).isSome))
    | none => .bad
  | _, _ => .bad
def rInDk (neg : Bool) : R2 := fun y x H Q => ∃ q o, x = V.ref q ∧ DGet H q y o ∧ Q (.bl (if neg then !o.isSome else o.isSome)) H
theorem op_inK (hu : X.A.units + 65 < cLine) : OpR X (compareOp .In) (rInDk false) := by
  intro pins s σ H x y v u Q I rx ry h
  obtain ⟨q, o, rfl, g, qq⟩ := h
  cases ry
  exact d_in (by omega) I g rx fun s' I' => ⟨.bl o.isSome, H, I', rfl, qq⟩
theorem op_ninK (hu : X.A.units + 65 < cLine) : OpR X (compareOp .NotIn) (rInDk true) := by
  intro pins s σ H x y v u Q I rx ry h
  obtain ⟨q, o, rfl, g, qq⟩ := h
  cases ry
  exact d_notIn (by omega) I g rx fun s' I' => ⟨.bl (!o.isSome), H, I', rfl, qq⟩
theorem os_inK {neg : Bool} : OpS c (mV c) (rInDk neg) (inK neg) := by
  intro σ S H x y d e Q ex hx hy p
  unfold inK at p
  split at p
  · rename_i ks vs
    split at p
    · rename_i z hz
      obtain ⟨q, kvs, rfl, h1, rfl, h3⟩ := RpB.dk hy ex
      have e1 : (valV kvs z).isSome = (getK (kvs.map (·.1)) vs z).isSome := by
        cases hg : getK (kvs.map (·.1)) vs z with
        | some d => obtain ⟨w, g1, _⟩ := (get_rp z h3).1 d hg; rw [g1]; rfl
        | none => rw [(get_rp z h3).2 hg]; rfl
      refine ⟨q, valV kvs z, rfl, ?_, ?_⟩
      · rw [key_v hx hz]; exact .inl ⟨_, _, h1, rfl, rfl⟩
      · rw [e1]; exact p.here ex (.bl _)
    · exact p.elim
  · exact p.elim
/-- list(d), len(d) -/
def listK : D → Res D
  | .dk ks _ => .ok (.lst (ks.map keyOf))
  | _ => .bad
def lenK : D → Res D
  | .dk ks _ => .ok (.int ks.length)
  | .dt ks _ => .ok (.int ks.length)
  | _ => .bad
/-- d[k] = v, d an own dict -/
def ownK (i : Nat) (r : Rho) : Res (List Key × List D) := match r[i]? with
  | some (some (.dk ks vs)) => .ok (ks, vs)
  | _ => .bad
def asK (d : D) : Res Key := match keyD d with
  | some k => .ok k
  | none => .bad
noncomputable def putF (i : Nat) (fk f : Rho → Res D) : Rho → SR := fun r => liftS r (f r) fun d => liftS r (ownK i r) fun o => liftS r (fk r) fun k => liftS r (asK k) fun x => guardS (o.1.length < sizeLine) (.nx (r.set i (some (.dk (putV o.1 o.2 x d).1 (putV o.1 o.2 x d).2))))
theorem ds_put (i : Nat) {x : Str} {pn p' : Pos} {ix : Expr} {fk : Rho → Res D} (hg : Gok c G) (hu : X.A.units + 65 < cLine) (kk : kd G i = .o) (ho : PE X (.Name x pn) (tVar i)) (hi : PE X ix (tV c G fk)) (he : PE X e (tV c G f))
    (hs : swapsWith e (some (.Subscript (.Name x pn) ix p')) pos.line X.env = pure false := by rfl) : PS X (.Assign [.Subscript (.Name x pn) ix p'] e pos) (sD c L G G (putF i fk f)) :=
  ps_imp (ps_dput (by omega) ho hi he hs) fun E σ H ⟨S0, H0, S, r, ok, p⟩ => st_seq hg ok p fun d v S1 H1 w1 o1 m1 p1 => by
    cases hK : ownK i r with
    | err n ns vs => exfalso; unfold ownK at hK; split at hK <;> cases hK
    | bad => rw [hK] at p1; exact p1.elim
    | ok o =>
      rw [hK] at p1
      unfold ownK at hK
      split at hK
      · rename_i ks vs hd
        cases hK
        obtain ⟨q, ho, s1, s2, s3, s4, s5⟩ := o1.own kk hd
        cases s5 with
        | @dk kvs _ _ hks hvs =>
          subst hks
          refine ⟨.ref q, s1, st_seq hg o1 p1 fun kd' kv S2 H2 w2 o2 m2 p2 => ?_⟩
          unfold asK at p2
          split at p2
          · rename_i xk hx
            have hxk : keyD kd' = some xk := hx
            obtain ⟨hl, p3⟩ := p2.gd
            have hq2 : H2 q = some (.dK kvs) := w2.h _ _ s2
            have ev : kv = kV xk := key_v (H := H2) (.inl m2) hxk
            subst ev
            have pr := put_rp (k := xk) (m1.mono w2.s) (hvs.mono w2.s)
            have hl' : kvs.length < sizeLine := by simpa using hl
            refine ⟨q, _, rfl, DPut.k hq2 hl', p3 σ S2 _ (o2.mut kk hd s1 (.dk pr.1 pr.2))⟩
          · exact p2.elim
      · cases hK
end
end Dx
end S_DxR
section S_DxI
set_option Elab.async false
set_option linter.all false
set_option maxRecDepth 100000
set_option maxHeartbeats 2000000
namespace Dx
open PySem L2 ItX PyProof.Rows
section
variable {X : Cx} {c : Cf} {L G G' : List Ow} {a b e : Expr} {pos : Pos} {f f1 f2 : Rho → Res D} {k : Nat}
def keysD : List D → Option (List Key)
  | [] => some []
  | d :: ds => match keyD d, keysD ds with
    | some k, some ks => some (k :: ks)
    | _, _ => none
def keyT : D → Option (List Key)
  | .tup ds => keysD ds
  | _ => none
def tupOf (ks : List Key) : D := .tup (ks.map keyOf)
theorem keys_v {K : PySem.W.Frag} {cm : CM} {S : Hp} : ∀ {vs : List V} {ds : List D} {ks : List Key}, RpA K cm S vs ds → keysD ds = some ks → vs = ks.map kV
  | _, [], ks, h, q => by cases h; cases q; rfl
  | _, d :: ds, ks, h, q => by
    cases h with | @cons v vs _ _ hd hr =>
    unfold keysD at q
    split at q
    · rename_i k ks' h1 h2
      cases q
      rw [List.map_cons, ← keys_v hr h2, key_v (H := S) (.inl hd) h1]
    · cases q
theorem keyT_v {K : PySem.W.Frag} {cm : CM} {S H : Hp} {v : V} {d : D} {ks : List Key} (h : RpB K cm S H v d) (e : Ex S H) (q : keyT d = some ks) : ∃ p, v = .ref p ∧ H p = some (.tup (ks.map kV)) := by
  cases d with
  | tup ds =>
    obtain ⟨p, xs, rfl, _, r, hp⟩ := h.tup e
    have := keys_v r q
    subst this
    exact ⟨p, rfl, e _ _ hp⟩
  | _ => cases q
/-- a tuple of the heap becomes one that stays -/
theorem Fwd.tup {S H : Hp} (e : Ex S H) {q : Addr} {xs : List V} (h : H q = some (.tup xs)) : ∃ S', Fwd S H S' H ∧ S' q = some (.tup xs) := by
  cases hs : S q with
  | some o =>
    have := e _ _ hs
    rw [h] at this
    cases this
    exact ⟨S, Fwd.refl e, hs⟩
  | none =>
    refine ⟨upd S q (.tup xs), ⟨Ex.new hs, Ex.refl, fun a u ha => ?_, fun a u ha m => ?_⟩, upd_same⟩
    · by_cases hh : a = q
      · subst hh; rw [upd_same] at ha; rw [h]; exact ha
      · rw [upd_ne hh] at ha; exact e a u ha
    · by_cases hh : a = q
      · subst hh; exact .inr ⟨xs, h⟩
      · rw [upd_ne hh, m] at ha; cases ha
def itemsK : D → Res (List D)
  | .dt ks _ => .ok (ks.map tupOf)
  | .dk ks _ => .ok (ks.map keyOf)
  | _ => .bad
variable {tg : Expr}
end
end Dx
end S_DxI
section S_DxJ
set_option Elab.async false
set_option linter.all false
set_option maxRecDepth 100000
set_option maxHeartbeats 2000000
namespace Dx
open PySem L2 ItX PyProof.Rows
/-- a def of the text, whatever its defaults are -/
structure FunE (K : PySem.W.Frag) (x qual : Str) (st : Stmt) (f : Addr) (fd : FuncData) : Prop where
  ex : ∃ (oc : Value) (od : Option Addr) (dV kV doc pm : Value) (an : Option Addr) (cdv ct : Value) (osl : Array (Option Value)),
    fd = PySem.W.fnOf x qual (defArgs st) (defBody st) (defScope st) dV kV doc pm an cdv ct ∧ K.lookup f = some ⟨oc, od, .func fd, osl⟩ ∧ PySem.W.codeIn K cdv qual = true
  kp : PySem.W.keepIn K (.ref f) = true
section
variable {P : Program} {w : World} {K : PySem.W.Frag} {mg : Str → Option Value} {base : Heap} {cm : CM}
theorem FunE.okN {x qual : Str} {st : Stmt} {f : Addr} {fd : FuncData} {N ps : List Str} {k : Nat} {sp : Sp} (F : FunE K x qual st f fd) (S : FnScope N ps (defScope st)) (len : ∀ vs H Q E, sp vs H Q E → vs.length = ps.length)
    (hbody : ∀ (cdv : Value) (A : Around) (outer : List Env) (s : Shared) (H : Hp) (vs : List V) (Q : VK) (E : XK), Room k (A.deeper (envOfC qual (defScope st) s.heap.objs.size f cdv)) → sp vs H Q E →
      ∃ t, PSs (cxOf (L2N.CX P w) P w K mg base N qual (defScope st) f cdv A outer s H E) (defBody st) t ∧ t { nx := fun _ H' => Q .non H', rt := Q } (start N vs) H) : FnOk P w K mg base (L2N.CX P w) (k + 1) f fd ps sp := by
  obtain ⟨oc, od, dV, kV, doc, pm, an, cdv, ct, osl, rfl, lk, hcd⟩ := F.ex
  exact fn_of lk hcd S len fun A outer s H vs Q E hr hsp => hbody cdv A outer s H vs Q E hr hsp
end
end Dx
end S_DxJ
section S_DxH
set_option Elab.async false
set_option linter.all false
set_option maxRecDepth 100000
set_option maxHeartbeats 4000000
namespace Dx
open PySem L2 PyProof.Rows Srt SrtO
abbrev T3 := Int × Int × Int
section
variable {prog : Program} {w : World} {A : Around} {E : Value → Shared → Prop} {s : Shared}
/-- v is a tuple of three ints in the heap -/
def IsTri (h : Heap) (v : Value) (k : T3) : Prop := ∃ a o t u v' n, v = .ref a ∧ h.get? a = some o ∧ o.cls = .type "tuple" ∧ o.data = .seq #[.int k.1 t, .int k.2.1 u, .int k.2.2 v'] n
theorem IsTri.keeps {h h' : Heap} {v : Value} {k : T3} (p : IsTri h v k) (kk : ∀ b o, h.get? b = some o → o.cls = .type "tuple" → h'.get? b = some o) : IsTri h' v k := by
  obtain ⟨a, o, t, u, z, n, e, ho, hc, hd⟩ := p
  exact ⟨a, o, t, u, z, n, e, kk _ _ ho hc, hc, hd⟩
end
end Dx
end S_DxH
section S_DxL
set_option Elab.async false
set_option linter.all false
set_option maxRecDepth 100000
set_option maxHeartbeats 4000000
namespace Dx
open PySem L2
end Dx
end S_DxL
section S_DxK
set_option Elab.async false
set_option linter.all false
set_option maxRecDepth 100000
set_option maxHeartbeats 2000000
namespace Dx
open PySem L2 PyProof.Rows ClX
/-- C.m is a static method: its record at p, its def at g -/
structure SMet (K : PySem.W.Frag) (C : Addr) (mc : Value) (m : Str) (p g : Addr) : Prop where
  at_ : PySem.W.findCls K (.ref C) mc m = some (.get (.builtin "staticmethod.__get__") (.ref p) .none (.ref C))
  rc : ∃ rest, PySem.W.recIn K p "staticmethod" = some (.ref g :: rest)
  kp : PySem.W.keepIn K (.ref g) = true
section
variable {X : Cx} {CX : CXT} {k : Nat} {f C p g : Addr} {fd : FuncData} {ps : List Str} {sp : Sp} {dvs : List V} {ds : List Value} {E : L2.St → XK} {x m : Str} {pn pos apos : Pos} {e : Expr} {es : List Expr} {t : TA} {mc : Value} {pl : Sem Bool}
variable {c : Cf} {G : List Ow} {fs : Rho → Res (List D)} {ms : List Bool} {rm : Bool} {Fn : List D → Res D}
theorem pe_smeth0 (F : FnOk X.prog X.w X.K X.mg X.base CX k g fd ps sp) (hr : Room k X.A) (hg : Gl X x) (hm : X.mg x = some (.ref C)) (r : CRead X.K C mc) (sm : SMet X.K C mc m p g) (hb : L2.Binds X.K fd ps []) (hx : ∀ σ, PassesAt CX X σ (E σ))
    (hdb : (x == ("__debug__" : Str)) = false := by decide)
    (ht : eval (.Call (.Attribute (.Name x pn) m apos) [] [] pos) X.env = (do
      let ov ← eval (.Name x pn) X.env
      standAt apos.atName
      let (f, first) ← holding [ov] (getMethod ov m pl)
      callWith pos f first (backTo pos (starEach [] X.env)) (backToKw pos (keywordEach [] X.env))) := by rfl) :
    PE X (.Call (.Attribute (.Name x pn) m apos) [] [] pos) (tCallSD sp [] E tNil) := by
  refine ⟨fun pins s σ H Q I h => ?_⟩
  refine PySem.W.methodCall_KW (pl := pl) (thn ((pe_glob (v := .ref C) hg hm rfl hdb).run pins s σ H (fun v H' => v = .ref C ∧ H' = H) I ⟨rfl, rfl⟩) fun u s1 ⟨x, H1, I1, rx, ex, eH⟩ => ?_) ht
  subst ex eH
  obtain rfl : u = Value.ref C := rx
  obtain ⟨rest, hp⟩ := sm.rc
  refine PySem.W.method_cls I1.kIn r.ga (PySem.W.cls_bind I1.kIn r.rd sm.at_ (wpAny_call (PySem.W.sm_get (s := { s1 with toks := s1.toks + 1 }) I1.kIn hp (PySem.W.handed_on rfl ?_))))
  have I2 := I1.tok (s1.toks + 1)
  exact PySem.W.callWith_K0 I2.kIn sm.kp (run_fnSD (us := []) F hr hb .nil (hx σ) I2 .nil h)
theorem de_smeth0 (F1 : FnOk X.prog X.w X.K X.mg X.base (L2N.CX X.prog X.w) k g fd ps (spD c.K c.cm [] rm Fn)) (tk : L2N.Takes X c.W) (hr : Room k X.A) (hg : Gl X x) (hm : X.mg x = some (.ref C)) (r : CRead X.K C mc) (sm : SMet X.K C mc m p g) (hb : L2.Binds X.K fd ps [])
    (hdb : (x == ("__debug__" : Str)) = false := by decide)
    (ht : eval (.Call (.Attribute (.Name x pn) m apos) [] [] pos) X.env = (do
      let ov ← eval (.Name x pn) X.env
      standAt apos.atName
      let (f, first) ← holding [ov] (getMethod ov m pl)
      callWith pos f first (backTo pos (starEach [] X.env)) (backToKw pos (keywordEach [] X.env))) := by rfl) :
    PE X (.Call (.Attribute (.Name x pn) m apos) [] [] pos) (rd c G (dCall Fn dNil) (mR c rm)) :=
  pe_imp (pe_smeth0 (pl := pl) (E := fun σ cls d H => c.W cls d σ H) F1 hr hg hm r sm hb (fun σ => L2N.passAt tk σ) hdb ht) fun σ H Q ⟨S0, H0, S, r, ok, q⟩ => call_rd (vs := []) (ds := []) (fun _ _ _ h => h) ok.ex trivial q
end
end Dx
namespace Dx
open PySem L2
end Dx
end S_DxK
section S_DxAA
set_option Elab.async false
set_option linter.all false
set_option maxRecDepth 100000
set_option maxHeartbeats 2000000
namespace Dx
open PySem L2
section
variable {X : Cx} {c : Cf} {L G G' : List Ow} {f f1 f2 : Rho → Res D} {a b e : Expr} {pos : Pos} {tg : Expr}
theorem RgC.up {i j s : Int} (h : 0 < s ∧ s < 1000 ∧ -1000000000000000000 < i ∧ i < 1000000000000000000 ∧ -1000000000000000000 < j ∧ j < 1000000000000000000) : RgC i j s (if i < j then (j - i - 1) / s + 1 else 0).toNat := by
  obtain ⟨h1, h2, h3, h4, h5, h6⟩ := h
  have hs : Builtin.Range.rangeSize i j s = ((if i < j then (j - i - 1) / s + 1 else 0).toNat : Int) := by
    unfold Builtin.Range.rangeSize
    rw [if_pos (by omega)]
    split
    · have : 0 ≤ (j - i - 1) / s := Int.ediv_nonneg (by omega) (by omega)
      omega
    · rfl
  refine ⟨by omega, by omega, ?_, hs⟩
  have hd : i < j → (j - i - 1) / s ≤ j - i - 1 := fun h => Int.ediv_le_self _ (by omega)
  have hd0 : i < j → 0 ≤ (j - i - 1) / s := fun h => Int.ediv_nonneg (by omega) (by omega)
  have hq : i < j → (j - i - 1) / s * s ≤ j - i - 1 := fun h => Int.ediv_mul_le _ (by omega)
  unfold Builtin.Range.small
  unfold Builtin.Range.rangeSize
  simp only [Builtin.Range.rangeFitsLong, Bool.and_eq_true, Bool.or_eq_true, decide_eq_true_eq, beq_iff_eq, show s > 0 from h1, if_true]
  split
  · rename_i hij
    have hd := hd hij
    have hd0 := hd0 hij
    have hq := hq hij
    generalize (j - i - 1) / s = q at *
    have e : (q + 1) * s = q * s + s := by rw [Int.add_mul, Int.one_mul]
    have e0 : 0 ≤ q * s := Int.mul_nonneg hd0 (by omega)
    try rw [e]
    generalize q * s = z at *
    omega
  · omega
def insI (p : Int) : List Int → List Int
  | [] => [p]
  | x :: xs => if x < p then x :: insI p xs else p :: x :: xs
def sortI : List Int → List Int
  | [] => []
  | x :: xs => insI x (sortI xs)
def sortID : D → Res D
  | .lst ds => match allInt ds with
    | some is => .ok (.lst ((sortI is).map D.int))
    | none => .bad
  | _ => .bad
end
section
variable {Q : D → Prop} {E : Str → List Str → List D → Prop} {i j s : Int}
theorem allInt_map : ∀ ns : List Int, allInt (ns.map D.int) = some ns
  | [] => rfl
  | n :: ns => by rw [List.map_cons, allInt, allInt_map ns]
theorem rs_sortI {ns : List Int} (q : Q (.lst ((sortI ns).map D.int))) : Rs (g1 sortID [.lst (ns.map D.int)]) Q E := by
  show Rs (match allInt (ns.map D.int) with | some is => Res.ok (.lst ((sortI is).map D.int)) | none => .bad) Q E
  rw [allInt_map]; exact q
theorem rs_g2 {g : Int → Int → Int} (q : Q (.int (g i j))) : Rs (g2 (intsD g) [.int i, .int j]) Q E := q
theorem rs_sum {ns : List Int} (q : Q (.int ns.sum)) : Rs (g1 sumD [.lst (ns.map D.int)]) Q E := by
  show Rs (match allInt (ns.map D.int) with | some is => Res.ok (.int is.sum) | none => .bad) Q E
  rw [allInt_map]; exact q
end
end Dx
end S_DxAA
section S_DxAB
set_option Elab.async false
set_option linter.all false
set_option maxRecDepth 100000
set_option maxHeartbeats 4000000
namespace Dx
open PySem L2 PyProof.Rows Srt SrtO
section
variable {prog : Program} {w : World} {A : Around} {E : Value → Shared → Prop} {s : Shared}
def IsRow (h : Heap) (v : Value) (k : List Key) : Prop := ∃ a o us n, v = .ref a ∧ h.get? a = some o ∧ o.cls = .type "tuple" ∧ o.data = .seq us.toArray n ∧ Vals (k.map kV) us
theorem IsRow.keeps {h h' : Heap} {v : Value} {k : List Key} (p : IsRow h v k) (kk : ∀ b o, h.get? b = some o → o.cls = .type "tuple" → h'.get? b = some o) : IsRow h' v k := by
  obtain ⟨a, o, us, n, e, ho, hc, hd, hv⟩ := p
  exact ⟨a, o, us, n, e, kk _ _ ho hc, hc, hd, hv⟩
end
end Dx
end S_DxAB
section S_DxAC
set_option Elab.async false
set_option linter.all false
set_option maxRecDepth 100000
set_option maxHeartbeats 4000000
namespace Dx
open PySem L2
section
variable {X : Cx} {c : Cf} {L G G' G'' : List Ow} {f f1 f2 : Rho → Res D} {a b e e2 e3 : Expr} {pos : Pos} {tg : Expr} {k : Nat}
def getE (d k e : D) : Res D := match d with
  | .dk ks vs => match keyD k with
    | some x => .ok ((getK ks vs x).getD e)
    | none => .bad
  | .dt ks vs => match keyT k with
    | some x => .ok ((getK ks vs x).getD e)
    | none => .bad
  | _ => .bad
def getZ (d k : D) : Res D := match d with
  | .dk ks vs => match keyD k with
    | some x => match getK ks vs x with
      | some d => .ok d
      | none => .bad
    | none => .bad
  | .dt ks vs => match keyT k with
    | some x => match getK ks vs x with
      | some d => .ok d
      | none => .bad
    | none => .bad
  | _ => .bad
theorem de_getZ (hu : X.A.units + 65 < cLine) (ha : PE X a (tR c G f1)) (hb : PE X b (tR c G f2)) (hs : NoSl b) : PE X (.Subscript a b pos) (tV c G (dOp getZ f1 f2)) :=
  pe_imp (pe_dget (by omega) ha hb hs) fun σ H Q ⟨S0, H0, S, r, ok, p⟩ => rd_seq ok p fun d v S1 H1 w1 o1 m1 p1 => rd_seq o1 p1 fun e u S2 H2 w2 o2 m2 p2 => by
    have m1 := RpB.mono m1 w2.s w2.h
    unfold getZ at p2
    split at p2
    · rename_i ks vs
      split at p2
      · rename_i x hx
        split at p2
        · rename_i z hz
          obtain ⟨q, kvs, rfl, h1, rfl, h3⟩ := RpB.dk m1 o2.ex
          obtain ⟨w, g1, g2⟩ := (get_rp x h3).1 z hz
          refine ⟨q, w, rfl, ?_, p2.go o2.ex _ g2⟩
          rw [key_v m2 hx, ← g1]
          exact .inl ⟨_, _, h1, rfl, rfl⟩
        · exact p2.elim
      · exact p2.elim
    · rename_i ks vs
      split at p2
      · rename_i x hx
        split at p2
        · rename_i z hz
          obtain ⟨q, kvs, rfl, h1, rfl, h3⟩ := RpB.dt m1 o2.ex
          obtain ⟨w, g1, g2⟩ := (get_rp x h3).1 z hz
          obtain ⟨b, rfl, hb⟩ := keyT_v m2 o2.ex hx
          exact ⟨q, w, rfl, .inr ⟨_, x, b, h1, rfl, hb, g1.symm⟩, p2.go o2.ex _ g2⟩
        · exact p2.elim
      · exact p2.elim
    · exact p2.elim
abbrev FP := (Rho → Res D) × (Rho → Res D)
def dPairs : List FP → Rho → Res (List (D × D))
  | [], _ => .ok []
  | p :: ps, r => (p.1 r).bind fun k => (p.2 r).bind fun d => (dPairs ps r).bind fun kvs => .ok ((k, d) :: kvs)
def RpPs (c : Cf) (S : Hp) : List (V × V) → List (D × D) → Prop
  | [], [] => True
  | v :: vs, d :: ds => Rp c.K c.cm S v.1 d.1 ∧ Rp c.K c.cm S v.2 d.2 ∧ RpPs c S vs ds
  | _, _ => False
def mergeD : List Key → List D → List (D × D) → Res D
  | ks, vs, [] => .ok (.dk ks vs)
  | ks, vs, (k, d) :: kvs => match keyD k with
    | some x => mergeD (putV ks vs x d).1 (putV ks vs x d).2 kvs
    | none => .bad
def dDisp (ps : List FP) : Rho → Res D := fun r => (dPairs ps r).bind fun kvs => mergeD [] [] kvs
theorem RpPs.len {S : Hp} : ∀ {vs : List (V × V)} {ds : List (D × D)}, RpPs c S vs ds → vs.length = ds.length
  | [], [], _ => rfl
  | v :: vs, d :: ds, h => by simp [RpPs.len h.2.2]
  | [], _ :: _, h => h.elim
  | _ :: _, [], h => h.elim
def allBl : List D → Option (List Bool)
  | [] => some []
  | .bl b :: ds => match allBl ds with
    | some bs => some (b :: bs)
    | none => none
  | _ => none
def allD : D → Res D
  | .lst ds => match allBl ds with
    | some bs => .ok (.bl (bs.all id))
    | none => .bad
  | _ => .bad
def inKt (neg : Bool) (d e : D) : Res D := match e with
  | .kt ds => match inFlat d ds with
    | some b => .ok (.bl (if neg then !b else b))
    | none => .bad
  | _ => .bad
theorem os_inKt {neg : Bool} : OpS c (mV c) (rIn c.K neg) (inKt neg) := fun σ S H x y d e Q ex hx hy p => by
  unfold inKt at p
  cases e with
  | kt ds =>
    dsimp only at p
    split at p
    · rename_i b hb
      obtain ⟨q, xs, rfl, a1, r1, s1⟩ := hy.kt ex
      obtain ⟨z1, z2, z3⟩ := of_inFlat hx r1 hb
      refine ⟨q, xs, rfl, .inr a1, z1, z2, ?_⟩
      rw [z3]; exact p.here ex (.bl _)
    · exact p.elim
  | _ => exact p.elim
theorem kt_mk {K : PySem.W.Frag} {cm : CM} {A : Addr} {od : Option Addr} {n : Nat} {sl : Array (Option Value)} {us : List Value} {xs : List V} {ds : List D} (l : K.lookup A = some ⟨.type "tuple", od, .seq us.toArray n, sl⟩) (hz : us.length ≤ 1000) (hv : Vals xs us) {S : Hp} (hr : RpA K cm S xs ds) : Rp K cm S (.ref A) (.kt ds) :=
  .kt (.inr ⟨_, us.toArray, n, l, rfl, rfl, by rw [sizeLine_eq]; simp; omega, by simpa using hv⟩) hr
def parF3 (i j l : Nat) (f1 f2 f3 : Rho → Res D) : Rho → SR := fun r => liftS r (dCons f1 (dCons f2 (dCons f3 dNil)) r) fun ds => match ds with
  | [d, e, g] => .nx (((r.set i (some d)).set j (some e)).set l (some g))
  | _ => .bad
end
section
variable {Q : D → Prop} {E : Str → List Str → List D → Prop} {r : Rho} {f f1 f2 f3 : Rho → Res D} {d k e : D}
theorem allBl_map : ∀ bs : List Bool, allBl (bs.map D.bl) = some bs
  | [] => rfl
  | b :: bs => by rw [List.map_cons, allBl, allBl_map bs]
theorem rs_all {bs : List Bool} (q : Q (.bl (bs.all id))) : Rs (g1 allD [.lst (bs.map D.bl)]) Q E := by
  show Rs (match allBl (bs.map D.bl) with | some bs => Res.ok (.bl (bs.all id)) | none => .bad) Q E
  rw [allBl_map]; exact q
end
section
variable {N B C : Rho → Prop} {R : D → Prop} {E : Rho → Str → List Str → List D → Prop} {r : Rho} {f f1 f2 f3 : Rho → Res D} {i j l : Nat}
theorem ss_par3 (h : Rs (f1 r) (fun d => Rs (f2 r) (fun e => Rs (f3 r) (fun g => N (((r.set i (some d)).set j (some e)).set l (some g))) (E r)) (E r)) (E r)) : Ss (parF3 i j l f1 f2 f3 r) N R B C E :=
  ss_lift (rs_cons (h.impE (fun d q => rs_cons (q.impE (fun e q => rs_cons (q.impE (fun g q => rs_nil q) fun _ _ _ z => z)) fun _ _ _ z => z)) fun _ _ _ z => z))
end
end Dx
end S_DxAC
section S_DxAD
set_option Elab.async false
set_option linter.all false
set_option maxRecDepth 100000
set_option maxHeartbeats 2000000
namespace Dx
open PySem L2
section
variable {X : Cx} {c : Cf} {G : List Ow} {pos : Pos}
theorem de_strL {x y : Str} {j : Nat} (h : x = y) : PE X (.Constant (.str x) j pos) (tV c G (dC (.str y))) := by subst h; exact de_str
end
theorem log_small {i : Int} (h : 0 ≤ i) (h1 : i < 1000000000000) : i.natAbs.log2 < 1920 := by
  by_cases h0 : i.natAbs = 0
  · rw [h0]; decide
  · have : i.natAbs < 2 ^ 40 := by omega
    have := (Nat.log2_lt h0).mpr this
    omega
theorem num_ST {i : Int} (h : 0 ≤ i) : (toString i : Str) = Sg (TL.numL i.toNat) := by
  have e : i = ((i.toNat : Nat) : Int) := by omega
  refine TL.ext_tl ?_
  have := TL.tl_num i.toNat
  rw [← e] at this
  exact this
theorem lt_one {a b : Nat} : ([a] < [b]) ↔ a < b := by
  constructor
  · intro h
    cases h with
    | rel h => exact h
    | cons h => cases h
  · intro h; exact List.Lex.rel h
section
variable {Q : D → Prop} {E : Str → List Str → List D → Prop} {i j : Int} {a b l : List Nat} {r : Rho} {f : Rho → Res D} {g : Str → Rho → Res D} {acc : List Nat} {d : D}
theorem rs_strI (h : 0 ≤ i ∧ i < 1000000000000) (q : Q (.str (Sg (TL.numL i.toNat)))) : Rs (g1 strD [.int i]) Q E :=
  rs_guard (log_small h.1 h.2) (by show Q (.str (toString i)); rw [num_ST h.1]; exact q)
theorem rs_fmtI (h : 0 ≤ i ∧ i < 1000000000000) (q : Q (.str (Sg (TL.numL i.toNat)))) : Rs (fmtD (.int i)) Q E :=
  rs_guard (log_small h.1 h.2) (by show Q (.str (toString i)); rw [num_ST h.1]; exact q)
theorem rs_fmtS (h : a.length ≤ sizeLine) (q : Q (.str (Sg a))) : Rs (fmtD (.str (Sg a))) Q E := rs_guard (by rw [ST_len]; exact h) q
theorem rs_jnil (q : Q (.str (Sg acc))) : Rs (dJnil (Sg acc) r) Q E := q
theorem rs_jcons (h : Rs (f r) (fun d => Rs (asS d) (fun y => ∃ l, y = Sg l ∧ acc.length + l.length ≤ 100000 ∧ Rs (g (Sg (acc ++ l)) r) Q E) E) E) : Rs (dJcons f g (Sg acc) r) Q E :=
  Rs.bind (h.impE (fun d q => Rs.bind (q.impE (fun y q => by
    obtain ⟨l, rfl, h1, h2⟩ := q
    rw [ST_app]
    exact rs_guard (by rw [ST_len, List.length_append]; exact Nat.le_trans h1 sz5) h2) fun _ _ _ z => z)) fun _ _ _ z => z)
theorem rs_asSJ {l : List Nat} (h : acc.length + l.length ≤ 100000) (k : Rs (g (Sg (acc ++ l)) r) Q E) : Rs (asS (.str (Sg l))) (fun y => ∃ l, y = Sg l ∧ acc.length + l.length ≤ 100000 ∧ Rs (g (Sg (acc ++ l)) r) Q E) E := ⟨l, rfl, h, k⟩
theorem rs_dJoin (h : Rs (g (Sg []) r) Q E) : Rs (dJoin g r) Q E := h
theorem rs_ord {n : Nat} (q : Q (.int n)) : Rs (g1 ordX [.str (Sg [n])]) Q E := rs_guard (by rw [ST_len]; rfl) q
theorem rs_leS {m n : Nat} (q : Q (.bl (decide (m ≤ n)))) : Rs (leD (.str (Sg [m])) (.str (Sg [n]))) Q E := by
  show Q (.bl (!decide ([n] < [m])))
  rw [show (!decide ([n] < [m])) = decide (m ≤ n) from by
    rw [Bool.eq_iff_iff]
    simp only [Bool.not_eq_true', decide_eq_false_iff_not, decide_eq_true_eq, lt_one]
    omega]
  exact q
theorem inFlat_ints (i : Int) (ns : List Int) : inFlat (.int i) (ns.map D.int) = some (decide (i ∈ ns)) := by
  have e : flatDs (ns.map D.int) = some (ns.map V.int) := by
    induction ns with
    | nil => rfl
    | cons n ns ih => rw [List.map_cons, flatDs, ih]; rfl
  unfold inFlat
  rw [e]
  show some (inV (V.int i) (ns.map V.int)) = _
  congr 1
  induction ns with
  | nil => rfl
  | cons n ns ih =>
    have e : flatDs (ns.map D.int) = some (ns.map V.int) := by
      clear ih e
      induction ns with
      | nil => rfl
      | cons n ns ih => rw [List.map_cons, flatDs, ih]; rfl
    have ih := ih e
    unfold inV at ih ⊢
    rw [List.map_cons, List.any_cons, ih]
    show (decide (n = i) || decide (i ∈ ns)) = _
    by_cases h : n = i
    · subst h; simp
    · have h' : ¬ i = n := fun z => h z.symm
      simp [h, h']
theorem rs_inKI {neg : Bool} {ns : List Int} (q : Q (.bl (if neg then !decide (i ∈ ns) else decide (i ∈ ns)))) : Rs (inKt neg (.int i) (.kt (ns.map D.int))) Q E := by
  show Rs (match inFlat (.int i) (ns.map D.int) with | some b => Res.ok (D.bl (if neg then !b else b)) | none => .bad) Q E
  rw [inFlat_ints]; exact q
theorem rs_inI {ns : List Int} (q : Q (.bl (decide (i ∈ ns)))) : Rs (inD (.int i) (.lst (ns.map D.int))) Q E := by
  show Rs ((inLst (.int i) (ns.map D.int)).bind _) Q E
  unfold inLst
  rw [inFlat_ints]; exact q
theorem rs_ninI {ns : List Int} (q : Q (.bl (!decide (i ∈ ns)))) : Rs (ninD (.int i) (.lst (ns.map D.int))) Q E := by
  show Rs ((inLst (.int i) (ns.map D.int)).bind _) Q E
  unfold inLst
  rw [inFlat_ints]; exact q
end
theorem at_pos {α : Type} {xs : List α} {j : Int} {x : α} (h0 : 0 ≤ j) (h : xs[j.toNat]? = some x) : atI xs j = some x := by
  obtain ⟨n, rfl⟩ := Int.eq_ofNat_of_zero_le h0
  exact atI_nat h
theorem ixN_neg1 {n : Nat} (h : 0 < n) : ixN n (-1) = some (n - 1) := by
  unfold ixN
  rw [if_neg (by omega), if_pos (by omega)]
  congr 1
  omega
theorem at_last {α : Type} (xs : List α) (x : α) : atI (xs ++ [x]) (-1) = some x := by
  unfold atI
  rw [ixN_neg1 (by simp)]
  show (xs ++ [x])[(xs ++ [x]).length - 1]? = some x
  rw [List.length_append, List.length_cons, List.length_nil, Nat.add_sub_cancel, List.getElem?_append_right (Nat.le_refl _), Nat.sub_self]
  rfl
abbrev TD := List (List Nat × D)
def kS (a : List Nat) : Key := .inr (Sg a)
theorem kS_inj {a b : List Nat} : kS a = kS b ↔ a = b := ⟨fun h => by injection h with h; exact ST_inj.mp h, fun h => by rw [h]⟩
def dkT (T : TD) : D := .dk (T.map fun p => kS p.1) (T.map (·.2))
def lk (T : TD) (a : List Nat) : Option D := (T.find? fun p => decide (p.1 = a)).map (·.2)
theorem lk_cons (p : List Nat × D) (T : TD) (a : List Nat) : lk (p :: T) a = if p.1 = a then some p.2 else lk T a := by
  unfold lk
  rw [List.find?_cons]
  by_cases h : p.1 = a
  · rw [if_pos h, decide_eq_true h]; rfl
  · rw [if_neg h, decide_eq_false h]
theorem getK_T (T : TD) (a : List Nat) : getK (T.map fun p => kS p.1) (T.map (·.2)) (kS a) = lk T a := by
  induction T with
  | nil => rfl
  | cons p T ih =>
    rw [List.map_cons, List.map_cons, getK, ih, lk_cons]
    by_cases h : p.1 = a
    · rw [if_pos (kS_inj.mpr h), if_pos h]
    · rw [if_neg (fun z => h (kS_inj.mp z)), if_neg h]
theorem lk_isSome {T : TD} {a : List Nat} : (lk T a).isSome = decide (a ∈ T.map (·.1)) := by
  induction T with
  | nil => rfl
  | cons p T ih =>
    rw [lk_cons, List.map_cons]
    by_cases h : p.1 = a
    · rw [if_pos h]; simp [h]
    · have h' : ¬ a = p.1 := fun z => h z.symm
      rw [if_neg h, ih]; simp [h']
section
variable {Q : D → Prop} {E : Str → List Str → List D → Prop} {T : TD} {a : List Nat} {d e : D} {r : Rho}
theorem rs_inTk {neg : Bool} (q : Q (.bl (if neg then !decide (a ∈ T.map (·.1)) else decide (a ∈ T.map (·.1))))) : Rs (inK neg (.str (Sg a)) (dkT T)) Q E := by
  show Q (.bl (if neg then !(getK (T.map fun p => kS p.1) (T.map (·.2)) (kS a)).isSome else (getK (T.map fun p => kS p.1) (T.map (·.2)) (kS a)).isSome))
  rw [getK_T, lk_isSome]; exact q
theorem rs_getET (q : Q ((lk T a).getD e)) : Rs (getE (dkT T) (.str (Sg a)) e) Q E := by
  show Q ((getK (T.map fun p => kS p.1) (T.map (·.2)) (kS a)).getD e)
  rw [getK_T]; exact q
theorem rs_dD0 (q : Q (dkT [])) : Rs (dD0 r) Q E := q
theorem rs_listTk (q : Q (.lst (T.map fun p => .str (Sg p.1)))) : Rs (g1 listK [dkT T]) Q E := by
  show Q (.lst ((T.map fun p => kS p.1).map keyOf))
  rw [List.map_map]; exact q
theorem rs_lenTk (q : Q (.int T.length)) : Rs (g1 lenK [dkT T]) Q E := by
  show Q (.int (T.map fun p => kS p.1).length)
  rw [List.length_map]; exact q
theorem rs_itTk {Q : List D → Prop} (q : Q (T.map fun p => .str (Sg p.1))) : Rs (itemsK (dkT T)) Q E := by
  show Q ((T.map fun p => kS p.1).map keyOf)
  rw [List.map_map]; exact q
end
section
variable {Q : D → Prop} {E : Str → List Str → List D → Prop} {r : Rho} {fk fv : Rho → Res D} {ps : List FP}
theorem rs_disp (h : Rs (dPairs ps r) (fun kvs => Rs (mergeD [] [] kvs) Q E) E) : Rs (dDisp ps r) Q E := Rs.bind h
theorem rs_pnil {Q : List (D × D) → Prop} (q : Q []) : Rs (dPairs [] r) Q E := q
theorem rs_pcons {Q : List (D × D) → Prop} (h : Rs (fk r) (fun k => Rs (fv r) (fun d => Rs (dPairs ps r) (fun kvs => Q ((k, d) :: kvs)) E) E) E) : Rs (dPairs ((fk, fv) :: ps) r) Q E :=
  Rs.bind (h.impE (fun k q => Rs.bind (q.impE (fun d q => Rs.bind (q.impE (fun _ z => z) fun _ _ _ z => z)) fun _ _ _ z => z)) fun _ _ _ z => z)
end
section
variable {Q : D → Prop} {E : Str → List Str → List D → Prop} {r : Rho} {i : Nat} {n f : Str} {ns : List Str} {vs : List D} {d : D}
theorem rs_isX {isM : Str → Option Bool} {b : Bool} (h1 : r[i]? = some (some (.obj n ns vs))) (h2 : isM n = some b) (q : Q (.bl b)) : Rs (dIsX isM i r) Q E := by
  unfold dIsX
  rw [h1]
  dsimp only
  rw [h2]
  exact q
theorem rs_xf (h1 : r[i]? = some (some (.obj n ns vs))) (h2 : lookF ns vs f = some d) (q : Q d) : Rs (dXf i f r) Q E := by
  unfold dXf
  rw [h1]
  dsimp only
  rw [h2]
  exact q
end
section
variable {N B C : Rho → Prop} {R : D → Prop} {E : Rho → Str → List Str → List D → Prop} {r : Rho} {t u : Rho → Res Bool} {F K : Rho → SR}
/-- if t or u: F else: K, one test after the other -/
theorem ss_ifo (h : Rs (t r) (fun a => (a = true → Ss (F r) N R B C E) ∧ (a = false → Ss (ifF u F K r) N R B C E)) (E r)) : Ss (ifF (dOr t u) F K r) N R B C E := by
  unfold ifF
  refine ss_lift ?_
  refine rs_orc (h.impE (fun a q => ⟨fun ha => ?_, fun ha => ?_⟩) fun _ _ _ z => z)
  · exact q.1 ha
  · have q := q.2 ha
    unfold ifF at q
    cases hu : u r with
    | ok b => rw [hu] at q; exact q
    | err n ns vs => rw [hu] at q; exact q
    | bad => rw [hu] at q; exact q
theorem ss_ifa (h : Rs (t r) (fun a => (a = true → Ss (ifF u F K r) N R B C E) ∧ (a = false → Ss (K r) N R B C E)) (E r)) : Ss (ifF (dAnd t u) F K r) N R B C E := by
  unfold ifF
  refine ss_lift ?_
  refine rs_andc (h.impE (fun a q => ⟨fun ha => ?_, fun ha => ?_⟩) fun _ _ _ z => z)
  · have q := q.1 ha
    unfold ifF at q
    cases hu : u r with
    | ok b => rw [hu] at q; exact q
    | err n ns vs => rw [hu] at q; exact q
    | bad => rw [hu] at q; exact q
  · exact q.2 ha
end
end Dx
end S_DxAD
section S_DxAE
set_option Elab.async false
set_option linter.all false
set_option maxRecDepth 100000
set_option maxHeartbeats 2000000
namespace Dx
open PySem L2
end Dx
end S_DxAE
section S_DxAF
set_option Elab.async false
set_option linter.all false
set_option maxRecDepth 100000
set_option maxHeartbeats 4000000
namespace Dx
open PySem L2 PySem.Spec PyProof.Rows
end Dx
end S_DxAF
section S_DxAG
set_option Elab.async false
set_option linter.all false
set_option maxRecDepth 100000
set_option maxHeartbeats 4000000
namespace Dx
open PySem L2
end Dx
end S_DxAG
section S_DxAH
set_option Elab.async false
set_option linter.all false
set_option maxRecDepth 100000
set_option maxHeartbeats 2000000
namespace Dx
open PySem L2
end Dx
end S_DxAH
section S_DxAI
set_option Elab.async false
set_option linter.all false
set_option maxRecDepth 100000
set_option maxHeartbeats 2000000
namespace Dx
open PySem PySem.Spec L2 ItX PyProof.Rows
end Dx
end S_DxAI
section S_DxAJ
set_option Elab.async false
set_option linter.all false
set_option maxRecDepth 100000
set_option maxHeartbeats 2000000
namespace Dx
open PySem L2 ItX PyProof.Rows
section
variable {X : Cx} {c : Cf} {L G G' : List Ow} {f f1 : Rho → Res D} {fs gs : Rho → Res (List D)} {e o : Expr} {es : List Expr} {kws : List Keyword} {pos apos p : Pos} {C : Addr}
variable {k n : Nat} {fa : Addr} {fd : FuncData} {ps ks : List Str} {ms ms1 ms2 : List Bool} {rm : Bool} {F : List D → Res D}
theorem RpM.length {S H : Hp} : ∀ {ms : List Bool} {vs : List V} {ds : List D}, RpM c S H ms vs ds → vs.length = ms.length
  | [], vs, ds, h => by cases vs <;> cases ds <;> first | rfl | exact h.elim
  | b :: ms, vs, ds, h => by
    cases vs with
    | nil => cases b <;> cases ds <;> exact h.elim
    | cons v vs => cases ds with
      | nil => cases b <;> exact h.elim
      | cons d ds => cases b <;> exact congrArg Nat.succ (RpM.length h.2)
end
end Dx
end S_DxAJ
section S_DxAK
set_option Elab.async false
set_option linter.all false
set_option maxRecDepth 100000
set_option maxHeartbeats 2000000
namespace Dx
open PySem PySem.Spec L2 ItX PyProof.Rows
end Dx
end S_DxAK
section S_DxAL
set_option Elab.async false
set_option linter.all false
set_option maxRecDepth 100000
set_option maxHeartbeats 2000000
namespace Dx
open PySem PySem.Spec L2 ItX PyProof.Rows
theorem roomH_mark {j k : Nat} {A : Around} {v : Option Value} (r : Room k A) (h : j ≤ k) : L2H.RoomH j (A.mark v) := ⟨by have := r.dp; show A.depth + 3 * j + 5 < recursionLimit; omega, by have := r.un; show A.units + 16 * j + 200 < cLine; omega⟩
theorem _root_.L2H.RoomH.units {k : Nat} {A : Around} (r : L2H.RoomH k A) : A.units + 64 < cLine := by have := r.un; omega
section
variable {X : Cx} {c : Cf} {L G G' : List Ow} {f f1 : Rho → Res D} {fs : Rho → Res (List D)} {e o : Expr} {es : List Expr} {pos p : Pos}
variable {k : Nat} {fa : Addr} {fd : FuncData} {ps : List Str} {ms : List Bool} {rm : Bool} {F : List D → Res D} {x : Str}
theorem hu65h {k : Nat} {A : Around} (hr : L2H.RoomH k A) : A.units + 65 < cLine := by have := hr.un; omega
end
end Dx
end S_DxAL
section S_DxAM
set_option Elab.async false
set_option linter.all false
set_option maxRecDepth 100000
set_option maxHeartbeats 2000000
namespace Dx
open PySem L2 ItX
end Dx
end S_DxAM
section S_DxAN
set_option Elab.async false
set_option linter.all false
set_option maxRecDepth 100000
set_option maxHeartbeats 2000000
namespace Dx
open PySem L2 ItX
open PyProof.Rows hiding St
end Dx
end S_DxAN
section S_DxAO
set_option Elab.async false
set_option linter.all false
set_option maxRecDepth 100000
set_option maxHeartbeats 2000000
namespace Dx
open PySem L2 ItX
open PyProof.Rows hiding St
def rem (H : Hp) (p : Addr) : Hp := fun a => if a = p then none else H a
theorem rem_ne {H : Hp} {p a : Addr} (h : a ≠ p) : rem H p a = H a := if_neg h
theorem Ex.rem {S H : Hp} {p : Addr} (e : Ex S H) (n : S p = none) : Ex S (rem H p) := fun a o h => by
  have : a ≠ p := fun z => by subst z; rw [n] at h; cases h
  rw [rem_ne this]; exact e a o h
section
variable {c : Cf} {S0 H0 S H S' H' : Hp} {G : List Ow} {σ : St} {r : Rho}
/-- the own object in slot i is given away -/
theorem EnvOk.take (e : EnvOk c S0 H0 G S H σ r) {i : Nat} {d : D} {p : Addr} (k : kd G i = .o) (h : r[i]? = some (some d)) (hs : σ[i]? = some (some (.ref p))) (s3 : S p = none) (s4 : H0 p = none) : EnvOk c S0 H0 (G.set i .v) S (rem H p) σ (r.set i none) := by
  have sl : ∀ {j : Nat} {b : D}, (r.set i none)[j]? = some (some b) → i ≠ j ∧ r[j]? = some (some b) := fun {j b} hb => by
    rcases set_some hb with ⟨_, ea, _⟩ | ⟨ne, hb⟩
    · cases ea
    · exact ⟨ne, hb⟩
  refine ⟨⟨e.fwd.s, e.fwd.h.rem s4, e.fwd.sub.rem s3, e.fwd.new⟩, by rw [List.length_set]; exact e.len, fun j b hb => ?_, fun j l b b' q hj hl kj kl sj sl' => ?_, let ⟨A, hA⟩ := e.sto; ⟨A, ?_⟩⟩
  · obtain ⟨ne, hb⟩ := sl hb
    obtain ⟨v, h1, h2⟩ := e.slot j b hb
    refine ⟨v, h1, ?_⟩
    rw [kd_set_ne ne]
    cases kj : kd G j with
    | o =>
      rw [kj] at h2
      obtain ⟨q, ho, z1, z2, z3, z4, z5⟩ := h2
      subst z1
      have hq : q ≠ p := fun z => by subst z; exact ne (e.sep i j d b q h hb (isO_o k) (isO_o kj) hs h1)
      exact ⟨q, ho, rfl, by rw [rem_ne hq]; exact z2, z3, z4, z5⟩
    | i a =>
      rw [kj] at h2
      obtain ⟨z0, q, ho, z1, z2, z3, z4, z5⟩ := h2
      subst z1
      have hq : q ≠ p := fun z => by subst z; exact ne (e.sep i j d b q h hb (isO_o k) (by rw [kj]; trivial) hs h1)
      exact ⟨z0, q, ho, rfl, by rw [rem_ne hq]; exact z2, z3, z4, z5⟩
    | v => rw [kj] at h2; exact h2
    | b => rw [kj] at h2; exact h2
    | s P => rw [kj] at h2; exact h2
    | w => rw [kj] at h2; exact h2
    | j a0 fs0 => rw [kj] at h2; exact h2
    | x a C dd => rw [kj] at h2; exact h2
  · obtain ⟨n1, hj⟩ := sl hj
    obtain ⟨n2, hl⟩ := sl hl
    rw [kd_set_ne n1] at kj
    rw [kd_set_ne n2] at kl
    exact e.sep j l b b' q hj hl kj kl sj sl'
  · have np : ∀ a ∈ A, a ≠ p := fun a ha z => hA.own i d p h (isO_o k) hs (z ▸ ha)
    refine hA.sub (fun a ha => (hA.out a ha).1) (fun a ha => rem_ne (np a ha)) Ex.refl (fun j b q hj kj sj => ?_) fun j b kj hj => ?_
    · obtain ⟨n1, hj⟩ := sl hj
      rw [kd_set_ne n1] at kj
      exact hA.own j b q hj kj sj
    · obtain ⟨n1, hj⟩ := sl hj
      rw [kd_set_ne n1]
      exact ⟨rfl, hj, rfl⟩
end
end Dx
end S_DxAO
section S_DxAP
set_option Elab.async false
set_option linter.all false
set_option maxRecDepth 100000
set_option maxHeartbeats 2000000
namespace PySem
end PySem
namespace RZ
open PySem
open PySem.Sem (wp)
end RZ
end S_DxAP
section S_DxAQ
set_option Elab.async false
set_option linter.all false
set_option maxRecDepth 100000
set_option maxHeartbeats 2000000
namespace RZ
open PySem PySem.Spec PyProof.Rows L2
end RZ
end S_DxAQ
section S_DxAR
set_option Elab.async false
set_option linter.all false
set_option maxRecDepth 100000
set_option maxHeartbeats 2000000
namespace Dx
open PySem L2 ItX
open PyProof.Rows hiding St
end Dx
end S_DxAR
section S_DxAS
set_option Elab.async false
set_option linter.all false
set_option maxRecDepth 100000
set_option maxHeartbeats 2000000
namespace Dx
open PySem L2 ItX
open PyProof.Rows hiding St
end Dx
end S_DxAS
section S_DxAT
set_option Elab.async false
set_option linter.all false
set_option maxRecDepth 100000
set_option maxHeartbeats 2000000
namespace Dx
open PySem L2 ItX
open PyProof.Rows hiding St
end Dx
end S_DxAT
section S_DxAU
set_option Elab.async false
set_option linter.all false
set_option maxRecDepth 100000
set_option maxHeartbeats 2000000
namespace Dx
open PySem L2 ItX
open PyProof.Rows hiding St
end Dx
end S_DxAU
section S_DxAV
set_option Elab.async false
set_option linter.all false
set_option maxRecDepth 100000
set_option maxHeartbeats 2000000
namespace Dx
open PySem L2 ItX
open PyProof.Rows hiding St
section
variable {X : Cx} {c : Cf} {L G : List Ow} {f1 f2 : Rho → Res D} {a b : Expr} {pos : Pos}
theorem ds_parVO (i j : Nat) {x y : Str} {px py pt pt2 : Pos} {kt k2 : Nat} (hg : Gok c G) (hc : X.calm = true) (hN : X.N.Nodup) (hi : X.N[i]? = some x) (hj : X.N[j]? = some y) (hij : i ≠ j) (hGj : j < G.length)
    (hx : X.env.scope.names.lookup x = some .local) (hy : X.env.scope.names.lookup y = some .local) (ha : PE X a (tV c G f1)) (hb : PE X b (tO c G f2))
    (hw : swappedStores [.Tuple [.Name x px, .Name y py] kt pt] (.Tuple [a, b] k2 pt2) X.env = pure (some [x, y]))
    (hs : swapsWithSole [.Tuple [.Name x px, .Name y py] kt pt] (.Tuple [a, b] k2 pt2) pos.line X.env = pure false := by rfl)
    (hs1 : starEach [a, b] X.env = (false, eval a X.env) :: starEach [b] X.env := by rfl) (hs2 : starEach [b] X.env = (false, eval b X.env) :: starEach [] X.env := by rfl) :
    PS X (.Assign [.Tuple [.Name x px, .Name y py] kt pt] (.Tuple [a, b] k2 pt2) pos) (sD c L G ((G.set i .v).set j .o) (parF i j f1 f2)) :=
  ps_imp (ps_par hc hN hi hj hij hx hy (pa_cons ha (pa_cons hb pa_nil hs2) hs1) hw hs) fun E σ H ⟨S0, H0, S, r, ok, p⟩ => by
    have p' : PostS c S0 H0 L ((G.set i .v).set j .o) (liftS r (f1 r) fun d => liftS r (f2 r) fun e => .nx ((r.set i (some d)).set j (some e))) E := by
      unfold parF dCons dNil at p
      cases h1 : f1 r with
      | ok d =>
        rw [h1] at p
        cases h2 : f2 r with
        | ok e => rw [h2] at p; exact p
        | err n ns vs => rw [h2] at p; exact p
        | bad => rw [h2] at p; exact p
      | err n ns vs => rw [h1] at p; exact p
      | bad => rw [h1] at p; exact p
    refine st_seq hg ok p' fun d v S1 H1 w1 o1 m1 p1 => st_seq hg o1 p1 fun e u S2 H2 w2 o2 m2 p2 => ?_
    obtain ⟨q2, ho2, rfl, n2, ns2, hp2, h2⟩ := m2
    have e1 := o1.setV i m1
    have e2 := e1.setO w2 j (by rw [List.length_set]; exact hGj) n2 ns2 hp2 h2
    exact ⟨_, _, rfl, p2 _ S2 H2 e2⟩
end
end Dx
end S_DxAV
section S_DxAW
set_option Elab.async false
set_option linter.all false
set_option maxRecDepth 100000
set_option maxHeartbeats 2000000
namespace Dx
open PySem L2 HandSPX
open PyProof.Rows hiding St
end Dx
end S_DxAW
section S_DxAX
set_option Elab.async false
set_option linter.all false
set_option maxRecDepth 100000
set_option maxHeartbeats 2000000
namespace Dx
open PySem L2 PySem.Spec
open PyProof.Rows hiding St passOn frameOf
end Dx
end S_DxAX
section S_DxAY
set_option Elab.async false
set_option linter.all false
set_option maxRecDepth 100000
set_option maxHeartbeats 2000000
namespace Dx
open PySem L2
open PyProof.Rows hiding St
end Dx
end S_DxAY
section S_DxAZ
set_option Elab.async false
set_option linter.all false
set_option maxRecDepth 100000
set_option maxHeartbeats 2000000
namespace Dx
open PySem L2
open PyProof.Rows hiding St
section
variable {X : Cx} {c : Cf} {L G G' : List Ow} {σ : St} {S0 H0 S H S' H' : Hp} {r : Rho} {pos : Pos} {e : Expr}
theorem RmA.snoc {A : List Addr} {xs : List V} {row : List D} {v : V} {d : D} (h : RmA c.K c.cm A S xs row) (hv : RmV c.K c.cm A S v d) : RmA c.K c.cm A S (xs ++ [v]) (row ++ [d]) := by
  refine ⟨by rw [List.length_append, List.length_append, h.1]; rfl, fun i u b hu hb => ?_⟩
  by_cases hi : i < row.length
  · rw [List.getElem?_append_left (by rw [h.1]; exact hi)] at hu
    rw [List.getElem?_append_left hi] at hb
    exact h.2 i u b hu hb
  · rw [List.getElem?_append_right (by rw [h.1]; omega), h.1] at hu
    rw [List.getElem?_append_right (by omega)] at hb
    cases hz : i - row.length with
    | zero =>
      rw [hz] at hu hb
      cases hu; cases hb
      exact hv
    | succ n =>
      rw [hz] at hb
      simp at hb
theorem RmA.dropLast {A : List Addr} {xs : List V} {row : List D} (h : RmA c.K c.cm A S xs row) : RmA c.K c.cm A S xs.dropLast row.dropLast := by
  refine ⟨by rw [List.length_dropLast, List.length_dropLast, h.1], fun i u b hu hb => ?_⟩
  rw [List.getElem?_dropLast] at hu hb
  split at hu
  · split at hb
    · exact h.2 i u b hu hb
    · cases hb
  · cases hu
variable {a b : Expr} {f1 f2 : Rho → Res D} {p1 p2 : Pos}
end
end Dx
end S_DxAZ
section S_DxBA
set_option Elab.async false
set_option linter.all false
set_option maxRecDepth 100000
set_option maxHeartbeats 2000000
namespace Dx
open PySem L2
open PyProof.Rows hiding St
def GS (A : List Addr) (n : Nat) : List Ow := .s A :: List.replicate (n - 1) .v
end Dx
end S_DxBA
section S_DxBB
set_option Elab.async false
set_option linter.all false
set_option maxRecDepth 100000
set_option maxHeartbeats 2000000
namespace Dx
open PySem L2
open PyProof.Rows hiding St
section
variable {X : Cx} {c : Cf} {L G G' : List Ow} {σ : St} {S0 H0 S H S' H' : Hp} {r : Rho} {pos : Pos} {e : Expr}
theorem RmV.plain {A : List Addr} {v : V} {d : D} (h : RmV c.K c.cm A S v d) (ho : isOwn d = false) : Rp c.K c.cm S v d := by
  rcases h with h | ⟨j, a, e, _⟩
  · exact h
  · subst e; cases ho
end
end Dx
end S_DxBB
section S_DxBC
set_option Elab.async false
set_option linter.all false
set_option maxRecDepth 100000
set_option maxHeartbeats 2000000
namespace Dx
open PySem L2
open PyProof.Rows hiding St
inductive ModR (K : PySem.W.Frag) : List DictEntry → List (Str × D) → Prop
  | nil : ModR K [] []
  | cons {h : Int} {x y : Str} {t : Tok} {u : Value} {r : List DictEntry} {v : V} {d : D} {rows : List (Str × D)} (h0 : x = y) (h2 : RelV v u) (h3 : ∀ (cm : CM) S, Rp K cm S v d) (h4 : ModR K r rows) :
      ModR K (⟨h, .str x t, u⟩ :: r) ((y, d) :: rows)
def lookD : List (Str × D) → Str → Option D
  | [], _ => none
  | (x, d) :: r, z => if x = z then some d else lookD r z
theorem ModR.find {K : PySem.W.Frag} : ∀ {es : List DictEntry} {rows : List (Str × D)}, ModR K es rows → ∀ z : Str,
    (lookD rows z = none ∧ (es.find? fun e => Value.isStrOf z e.key) = none) ∨ ∃ d v e, lookD rows z = some d ∧ (es.find? fun e => Value.isStrOf z e.key) = some e ∧ RelV v e.val ∧ ∀ (cm : CM) S, Rp K cm S v d
  | _, _, .nil, z => .inl ⟨rfl, rfl⟩
  | _, _, .cons (h := h) (x := x) (t := t) (u := u) (r := r) (v := v) (d := d) (rows := rows) h0 h2 h3 h4, z => by
    subst h0
    by_cases e : x = z
    · subst e
      refine .inr ⟨d, v, ⟨h, .str x t, u⟩, by unfold lookD; rw [if_pos rfl], ?_, h2, h3⟩
      rw [List.find?_cons_of_pos]
      show (x == x) = true
      simp
    · have q : (List.find? (fun e => Value.isStrOf z e.key) ((⟨h, .str x t, u⟩ : DictEntry) :: r)) = List.find? (fun e => Value.isStrOf z e.key) r := List.find?_cons_of_neg (by
        show ¬ (x == z) = true
        intro w
        exact e (eq_of_beq w))
      rw [q]
      have q2 : lookD ((x, d) :: rows) z = lookD rows z := by
        show (if x = z then some d else lookD rows z) = _
        rw [if_neg e]
      rw [q2]
      exact h4.find z
def ModD (K : PySem.W.Frag) (w : World) (a : Addr) (rows : List (Str × D)) : Prop := ∃ es n, KDict K w a es n ∧ ModR K es.toList rows
theorem ModD.mk {K : PySem.W.Frag} {w : World} {a : Addr} {es : List DictEntry} {n : Nat} {rows : List (Str × D)} (h1 : K.lookup a = some ⟨.type "dict", none, .dict es.toArray n, #[]⟩) (h2 : PySem.W.KeysLit w.params es) (h3 : (a == sysModules) = false) (h4 : ModR K es rows) :
    ModD K w a rows := ⟨_, n, ⟨h1, by simpa using h2, h3⟩, by simpa using h4⟩
section
variable {X : Cx} {c : Cf} {G : List Ow} {f1 : Rho → Res D} {a b : Expr} {pos : Pos} {k : Addr} {rows : List (Str × D)}
theorem ModR.findBy {K : PySem.W.Frag} {es : Array DictEntry} (h : ModR K es.toList rows) (z : Str) :
    (lookD rows z = none ∧ PySem.findBy Value.isStrOf es z = none) ∨ ∃ d v u, lookD rows z = some d ∧ PySem.findBy Value.isStrOf es z = some u ∧ RelV v u ∧ ∀ (cm : CM) S, Rp K cm S v d := by
  unfold PySem.findBy
  rw [← Array.find?_toList]
  rcases h.find z with ⟨h1, h2⟩ | ⟨d, v, e, h1, h2, h3⟩
  · exact .inl ⟨h1, by rw [h2]; rfl⟩
  · exact .inr ⟨d, v, e.val, h1, by rw [h2]; rfl, h3⟩
def mdGet (rows : List (Str × D)) : D → Res D
  | .str z => match lookD rows z with
    | some d => .ok d
    | none => .bad
  | _ => .bad
theorem ix_md (D : ModD X.K X.w k rows) : IxR X (fun x y H Q => ∃ z d, x = .ref k ∧ y = .str z ∧ lookD rows z = some d ∧ ∀ v, (∀ (cm : CM) S, Rp X.K cm S v d) → Q v H) := by
  intro value slice pins s σ H x y v u Q I rx ry h hs
  obtain ⟨z, d, rfl, rfl, hz, q⟩ := h
  obtain ⟨es, n, D, R⟩ := D
  obtain rfl : v = Value.ref k := rx
  obtain ⟨t, rfl⟩ := ry
  have hm := PySem.W.mapOf_K (prog := X.prog) (w := X.w) I.kIn D.at_ D.lit
  rcases R.findBy z with ⟨h1, h2⟩ | ⟨d', v', u, h1, h2, h3, h4⟩
  · rw [h1] at hz; cases hz
  · rw [h1] at hz; cases hz
    exact tail_any hm.typeIs slot_dict_getitem.lookup (wpAny_getItem_of (PySem.strKind_is X.prog X.w z t) hm h2 ⟨v', H, I.tok _, h3, q v' h4⟩) hs
/-- D[e] -/
theorem de_mdGet (D : ModD X.K X.w k rows) (ha : PE X a (tC (.ref k))) (hb : PE X b (tR c G f1)) (hs : PlainIx b) (hK : c.K = X.K := by rfl) : PE X (.Subscript a b pos) (tV c G (dUn (mdGet rows) f1)) :=
  pe_imp (pe_ix (ix_md D) ha hb hs) fun σ H Q ⟨S0, H0, S, r, ok, p⟩ => rd_seq ok p fun d v S1 H1 w1 o1 m1 p1 => by
    unfold mdGet at p1
    split at p1
    · split at p1
      · rename_i d hd
        cases m1.str
        exact ⟨_, d, rfl, rfl, hd, fun v hv => p1.go o1.ex _ (by show Rp c.K c.cm _ v d; rw [hK]; exact hv _ _)⟩
      · exact p1.elim
    · exact p1.elim
end
end Dx
end S_DxBC
section S_DxBD
set_option Elab.async false
set_option linter.all false
set_option maxRecDepth 100000
set_option maxHeartbeats 2000000
namespace Dx
open PySem L2 ItX
open PyProof.Rows hiding St
end Dx
end S_DxBD
section S_DxBE
set_option Elab.async false
set_option linter.all false
set_option maxRecDepth 100000
set_option maxHeartbeats 2000000
namespace Dx
open PySem L2 ItX
open PyProof.Rows hiding St
end Dx
end S_DxBE
section S_DxBF
set_option Elab.async false
set_option linter.all false
set_option maxRecDepth 100000
set_option maxHeartbeats 2000000
namespace PySem
end PySem
namespace RZ
open PySem
open PySem.Sem (wp)
end RZ
end S_DxBF
section S_DxBG
set_option Elab.async false
set_option linter.all false
set_option maxRecDepth 100000
set_option maxHeartbeats 2000000
namespace RZ
open PySem PySem.Spec PyProof.Rows L2
end RZ
namespace Dx
open PySem L2
end Dx
end S_DxBG
section S_DxBH
set_option Elab.async false
set_option linter.all false
set_option maxRecDepth 100000
set_option maxHeartbeats 2000000
namespace Dx
open PySem L2
end Dx
end S_DxBH
section S_DxBI
set_option Elab.async false
set_option linter.all false
set_option maxRecDepth 100000
set_option maxHeartbeats 2000000
namespace Dx
open PySem L2
end Dx
end S_DxBI
section S_DxBJ
set_option Elab.async false
set_option linter.all false
set_option maxRecDepth 100000
set_option maxHeartbeats 2000000
namespace OT
open PySem PySem.SeqAt
/-- a bool as a number -/
def nbI (b : Bool) : Int := if b = true then 1 else 0
end OT
namespace Dx
open PySem L2 OT
/-- a number, and whether it is a bool -/
inductive NB where
  | i (n : Int)
  | b (x : Bool)
def NB.num : NB → Int
  | .i n => n
  | .b x => nbI x
def NB.v : NB → V
  | .i n => .int n
  | .b x => .bl x
end Dx
end S_DxBJ
section S_DxBK
set_option Elab.async false
set_option linter.all false
set_option maxRecDepth 100000
set_option maxHeartbeats 2000000
namespace L2
open PySem PySem.Spec PyProof.Rows
end L2
end S_DxBK
section S_DxBL
set_option Elab.async false
set_option linter.all false
set_option maxRecDepth 100000
set_option maxHeartbeats 2000000
namespace Dx
open PySem L2 ItX
open PyProof.Rows hiding St
end Dx
end S_DxBL
section S_DxBM
set_option Elab.async false
set_option linter.all false
set_option maxRecDepth 100000
set_option maxHeartbeats 2000000
namespace Dx
open PySem L2 ItX
end Dx
end S_DxBM
section S_DxBN
set_option Elab.async false
set_option linter.all false
set_option maxRecDepth 100000
set_option maxHeartbeats 2000000
namespace Dx
open PySem PySem.Spec L2 ItX PyProof.Rows
end Dx
end S_DxBN
section S_DxBO
set_option Elab.async false
set_option linter.all false
set_option maxRecDepth 100000
set_option maxHeartbeats 2000000
namespace Dx
open PySem PySem.Spec L2 ItX PyProof.Rows
end Dx
end S_DxBO
section S_DxBP
set_option Elab.async false
set_option linter.all false
set_option maxRecDepth 100000
set_option maxHeartbeats 2000000
namespace Dx
open PySem L2 ItX PyProof.Rows
/-- what is written by keywords, as entries of a dict -/
abbrev kwE {α : Type} (l : List (Str × α)) : List (Key × α) := l.map fun x => (Sum.inr x.1, x.2)
abbrev KWs : List (Str × V) → List (Str × Value) → Prop := Paired fun (p : Str × V) (q : Str × Value) => p.1 = q.1 ∧ RelV p.2 q.2
theorem KWs.kv : ∀ {a : List (Str × V)} {b : List (Str × Value)}, KWs a b → KV (kwE a) (kwE b)
  | _, _, .nil => .nil
  | _, _, .cons h t => .cons ⟨congrArg Sum.inr h.1, h.2⟩ (KWs.kv t)
theorem KWs.keys : ∀ {a : List (Str × V)} {b : List (Str × Value)}, KWs a b → b.map (·.1) = a.map (·.1)
  | _, _, .nil => rfl
  | _, _, .cons h t => by rw [List.map_cons, List.map_cons, KWs.keys t, h.1]
theorem KWs.zip : ∀ {ks : List Str} {vs : List V} {us : List Value}, Vals vs us → KWs (ks.zip vs) (ks.zip us)
  | [], _, _, _ => .nil
  | _ :: _, _, _, .nil => .nil
  | _ :: _, _, _, .cons h t => .cons ⟨rfl, h⟩ (KWs.zip t)
end Dx
end S_DxBP
section S_DxBQ
set_option Elab.async false
set_option linter.all false
set_option maxRecDepth 100000
set_option maxHeartbeats 2000000
namespace RZ
open PySem
end RZ
namespace Dx
open PySem PySem.Spec L2 ItX PyProof.Rows RZ
end Dx
end S_DxBQ
section S_DxBR
set_option Elab.async false
set_option linter.all false
set_option maxRecDepth 100000
set_option maxHeartbeats 2000000
namespace Dx
open PySem PySem.Spec L2 ItX PyProof.Rows
end Dx
end S_DxBR
section S_DxBS
set_option Elab.async false
set_option linter.all false
set_option maxRecDepth 100000
set_option maxHeartbeats 2000000
namespace Dx
open PySem L2
open PyProof.Rows hiding St
end Dx
end S_DxBS
section S_DxBT
set_option Elab.async false
set_option linter.all false
set_option maxRecDepth 100000
namespace Dx
open PySem PySem.Spec L2 ItX PyProof.Rows
end Dx
end S_DxBT
section S_DxBU
set_option Elab.async false
set_option linter.all false
set_option maxRecDepth 100000
set_option maxHeartbeats 2000000
namespace Dx
open PySem L2
open PyProof.Rows hiding St
/-- no generator stands between these frames -/
def ngF : List Frame → Prop
  | [] => True
  | .ret _ _ _ _ _ _ _ :: fs => ngF fs
  | .gen _ _ _ _ _ :: _ => False
theorem ngF.app : ∀ {as bs : List Frame}, ngF as → ngF bs → ngF (as ++ bs)
  | [], _, _, h => h
  | .ret _ _ _ _ _ _ _ :: as, _, h, h2 => ngF.app (as := as) h h2
  | .gen _ _ _ _ _ :: _, _, h, _ => h.elim
theorem ngF.split : ∀ {fs : List Frame}, ngF fs → splitAtGen fs = none
  | [], _ => rfl
  | .ret _ _ _ _ _ _ _ :: fs, h => by
    have z := ngF.split (fs := fs) h
    show (splitAtGen fs).map _ = none
    rw [z]
    rfl
  | .gen _ _ _ _ _ :: _, h => h.elim
def ngG : GenState → Prop
  | .suspended _ _ _ _ fs _ => ngF fs
  | _ => True
def ngE : End → Prop
  | .susp _ _ _ _ _ _ fs => ngF fs
  | _ => True
theorem ngE.st {e : End} (h : ngE e) : ngG e.genState := by
  cases e with
  | ret r => trivial
  | susp v g l k c p fs => exact h
def isSus : GenState → Bool
  | .suspended _ _ _ _ _ _ => true
  | _ => false
/-- a frame that stands there and does nothing -/
def deadF (F : Frame) : Frame := .ret (fun _ => .unsupported "") none false [] F.where_.1 F.where_.2 []
/-- it looks alike, and cannot be woken -/
def deadG : GenState → GenState
  | .suspended _ _ c p fs _ => .suspended (fun _ => .unsupported "") [] c p (fs.map deadF) false
  | x => x
theorem deadG.bare {x : GenState} (h : x.bare = true) : (deadG x).bare = true := by
  cases x <;> first | exact h | rfl
def ngs (a : Array GenState) : Prop := ∀ (i : Nat) (y : GenState), a[i]? = some y → ngG y
theorem ngs.push {a : Array GenState} {y : GenState} (h : ngs a) (hy : ngG y) : ngs (a.push y) := fun i z e => by
  rw [Array.getElem?_push] at e
  split at e
  · cases e; exact hy
  · exact h i z e
theorem ngs.set {a : Array GenState} {g : Nat} {y : GenState} (h : ngs a) (hy : ngG y) : ngs (a.setIfInBounds g y) := fun i z e => by
  rw [Array.getElem?_setIfInBounds] at e
  split at e
  · split at e
    · cases e; exact hy
    · cases e
  · exact h i z e
/-- the true entries put back -/
def rest (ρ : Nat → Option GenState) (s : Shared) : Shared := { s with gens := s.gens.mapIdx fun i y => (ρ i).getD y }
/-- the state has the dead entries -/
def DeadAt (ρ : Nat → Option GenState) (s : Shared) : Prop := ∀ i x, ρ i = some x → isSus x = true ∧ s.gens[i]? = some (deadG x)
section
variable {ρ : Nat → Option GenState} {s s' : Shared} {M : Model} {Γ : Ctx} {p : Pos}
theorem DeadAt.push (d : DeadAt ρ s) (y : GenState) : DeadAt ρ { s with gens := s.gens.push y } := fun i x h => by
  obtain ⟨h1, h2⟩ := d i x h
  refine ⟨h1, ?_⟩
  show (s.gens.push y)[i]? = _
  rw [Array.getElem?_push]
  have : i < s.gens.size := (Array.getElem?_eq_some_iff.mp h2).1
  rw [if_neg (by omega)]
  exact h2
theorem DeadAt.set (d : DeadAt ρ s) {g : Nat} (hg : ρ g = none) (y : GenState) : DeadAt ρ (s.setGen g y) := fun i x h => by
  obtain ⟨h1, h2⟩ := d i x h
  refine ⟨h1, ?_⟩
  have hne : g ≠ i := fun z => by rw [z, h] at hg; cases hg
  show (s.gens.setIfInBounds g y)[i]? = _
  rw [Array.getElem?_setIfInBounds_ne hne]
  exact h2
/-- those that sleep in s, but for U, are as they were in s' -/
def KeptG (U : Nat → Prop) (s s' : Shared) : Prop := ∀ (i : Nat) (x : GenState), ¬ U i → s.gens[i]? = some x → isSus x = true → s'.gens[i]? = some x
theorem KeptG.trans {U : Nat → Prop} {s1 : Shared} (a : KeptG U s s1) (b : KeptG U s1 s') : KeptG U s s' := fun i x u h z => b i x u (a i x u h z) z
end
end Dx
end S_DxBU
section S_DxBV
set_option Elab.async false
set_option linter.all false
set_option maxRecDepth 100000
set_option maxHeartbeats 2000000
namespace Dx
open PySem L2
open PyProof.Rows hiding St
open GenW
/-- the stretch ends so -/
def GRun (M : Model) (A : Around) (Φ : End → Shared → Prop) (c : Code) (t : Sem PySem.Fin) (fs : List Frame) (s : Shared) : Prop :=
  ∀ Γ p, Γ.code = c → Γ.Woken A → ∃ e s', Runs M Γ p t fs s e s' ∧ Φ e s'
section
variable {M : Model} {A : Around} {Φ : End → Shared → Prop} {c : Code} {fs : List Frame} {s : Shared} {env : Env} {K : Flow → Sem PySem.Fin} {J : Value → Sem PySem.Fin} {gd : Bool → Bool} {lv : List Value → List Value}
/-- what stands in the table can go on so -/
def GoG (M : Model) (A : Around) (Φ : End → Shared → Prop) (gs : GenState) (s : Shared) : Prop :=
  match gs with
  | .fresh c => GRun M A Φ c (M.den c) [] s
  | .suspended k _ c _ fs _ => GRun M A Φ c (k (.send .none)) fs s
  | _ => False
end
end Dx
end S_DxBV
section S_DxBW
set_option Elab.async false
set_option linter.all false
set_option maxRecDepth 100000
set_option maxHeartbeats 2000000
namespace Dx
open PySem L2
open PyProof.Rows hiding St
open GenW
def GoneN (s s' : Shared) : Prop := s.heap.objs.size ≤ s'.heap.objs.size ∧ ∀ p, p < s.heap.objs.size → s.heap.get? p = none → s'.heap.get? p = none
theorem GoneN.trans {a b c : Shared} (x : GoneN a b) (y : GoneN b c) : GoneN a c := ⟨Nat.le_trans x.1 y.1, fun p h e => y.2 p (Nat.lt_of_lt_of_le h x.1) (x.2 p h e)⟩
theorem GoneN.push {s : Shared} {o : Obj} {s' : Shared} (h : s'.heap = s.heap.push o) : GoneN s s' := by
  refine ⟨by rw [h, Heap.size_push]; exact Nat.le_succ _, fun p hp e => ?_⟩
  rw [h, Heap.get?_push_ne _ _ _ (Nat.ne_of_lt hp)]
  exact e
def cutH (n : Nat) (h : Heap) : Heap := { h with objs := (h.objs.toList.take n).toArray }
def cutS (n : Nat) (s : Shared) : Shared := { s with heap := cutH n s.heap }
theorem cut_size {n : Nat} {h : Heap} (hn : n ≤ h.objs.size) : (cutH n h).objs.size = n := by
  show (h.objs.toList.take n).toArray.size = n
  rw [List.size_toArray, List.length_take, Array.length_toList]
  omega
structure GCt where
  P : Program
  w : World
  K : PySem.W.Frag
  mg : Str → Option Value
  base : Heap
  cm : CM
  N : List Str
  qual : Str
  scope : Scope
  f : Addr
  cd : Value
  outer : List Env
  n0 : Nat
  os : OsState
  k : Nat
  pn : List (Addr × Obj)
/-- a wake -/
structure GB where
  A : Around
  s : Shared
  S : Hp
  H : Hp
  U : List Nat
abbrev GCt.X (C : GCt) (b : GB) : Cx := gcxOf C.P C.w C.K C.mg C.base C.N C.qual C.scope C.f C.cd b.A C.outer (cutS C.n0 b.s) b.H noX C.pn
abbrev GCt.env (C : GCt) : Env := envOfC C.qual C.scope C.n0 C.f C.cd
abbrev GCt.cf (C : GCt) : Cf := cfE C.K C.cm false noX
structure GCt.Ok (C : GCt) (b : GB) : Prop where
  room : Room C.k (b.A.deeper C.env)
  fr : b.A.frames = some C.outer
  sz : C.n0 ≤ b.s.heap.objs.size
  os : b.s.os = C.os
theorem GCt.Ok.env {C : GCt} {b : GB} (h : C.Ok b) : (C.X b).env = C.env := by
  show envOfC C.qual C.scope (cutH C.n0 b.s.heap).objs.size C.f C.cd = _
  rw [cut_size h.sz]
theorem GCt.Ok.A {C : GCt} {b : GB} (h : C.Ok b) : (C.X b).A = b.A.deeper C.env := by
  show b.A.deeper (envOfC C.qual C.scope (cutH C.n0 b.s.heap).objs.size C.f C.cd) = _
  rw [cut_size h.sz]
/-- the entries of inner generators -/
def GlOk (b : GB) (gl : List (Nat × GenState)) (s : Shared) : Prop := b.s.gens.size ≤ s.gens.size ∧ ∀ q ∈ gl, s.gens[q.1]? = some q.2 ∧ isSus q.2 = true ∧ ngG q.2 ∧ (q.1 ∈ b.U ∨ b.s.gens.size ≤ q.1)
/-- the consumer's state as the generator is woken: what is pinned and what stands in the table is as it was -/
structure Wk (C : GCt) (b : GB) (pg : List (Addr × Obj)) (gl : List (Nat × GenState)) (S1 : Hp) : Prop where
  ok : C.Ok b
  e0 : Env0 C.P C.w C.K C.mg C.base b.A C.outer b.s b.H
  s : Ex S1 b.S
  h : Ex b.S b.H
  pin : ∀ q ∈ pg, b.s.heap.get? q.1 = some q.2 ∧ b.H q.1 = none
  gl : ∀ q ∈ gl, b.s.gens[q.1]? = some q.2 ∧ q.1 ∈ b.U
/-- what holds behind a stretch -/
structure Aft (C : GCt) (b : GB) (S1 H1 : Hp) (z : Shared) : Prop where
  fwd : Fwd b.S b.H S1 H1
  un : Un (frs C.outer) [] b.H H1 (cutH C.n0 b.s.heap) z.heap
  hok : HOk C.P C.w H1 z.heap
  os : z.os = C.os
  bare : AllBare z.gens
  gsz : b.s.gens.size ≤ z.gens.size
  pn : ∀ q ∈ C.pn, z.heap.get? q.1 = some q.2
/-- all that is still to be handed out; the end of a stretch -/
def Std (C : GCt) : List D → GB → End → Shared → Prop
  | [] => fun b e z => match e with
    | .ret r => r = .ok (.ret .none) ∧ ∃ S1 H1, Aft C b S1 H1 z
    | .susp _ _ _ _ _ _ _ => False
  | d :: ds => fun b e z => match e with
    | .ret _ => False
    | .susp v gd l k c p fs => (End.susp v gd l k c p fs).quiet = true ∧ ngF fs ∧ ∃ x S1 H1 pg gl, RelV x v ∧ Rp C.K C.cm S1 x d ∧ Aft C b S1 H1 z ∧
        (∀ q ∈ pg, z.heap.get? q.1 = some q.2 ∧ H1 q.1 = none ∧ C.n0 ≤ q.1 ∧ ∀ u, q.2.data ≠ .cell u) ∧ (∀ q ∈ C.pn, q ∈ pg) ∧ GlOk b gl z ∧
        ∀ b', Wk C b' pg gl S1 → GRun (model C.P C.w) b'.A (Std C ds b') c (k (.send .none)) fs b'.s
section
variable {C : GCt} {L G G' G'' : List Ow} {b : GB} {c : Code} {fs : List Frame} {gd : Bool → Bool}
theorem _root_.L2.Inv.gens {X : Cx} {pins : List (Addr × Obj)} {σ : L2.St} {H : Hp} {s : Shared} {a : Array GenState} (I : Inv X pins σ H s) (h : AllBare a) : Inv X pins σ H { s with gens := a } :=
  ⟨I.ok, I.os, h, I.base, I.loc, I.cell, I.free, I.freeC, I.pin, I.hok, I.len⟩
theorem GlOk.kept {gl : List (Nat × GenState)} {s s' : Shared} (h : GlOk b gl s) (k : KeptG (fun _ => False) s s') (hs : s.gens.size ≤ s'.gens.size) : GlOk b gl s' :=
  ⟨Nat.le_trans h.1 hs, fun q hq => let ⟨h1, h2, h3, h4⟩ := h.2 q hq; ⟨k q.1 q.2 (fun z => z) h1 h2, h2, h3, h4⟩⟩
end
end Dx
end S_DxBW
section S_DxBX
set_option Elab.async false
set_option linter.all false
set_option maxRecDepth 100000
set_option maxHeartbeats 2000000
namespace Dx
open PySem L2
open PyProof.Rows hiding St
open GenW
/-- no names of this def stand in cells -/
def NoCell (sc : Scope) : Prop := ∀ y ∈ sc.names, y.2 ≠ .cell ∧ y.2 ≠ .free
theorem NoCell.not {sc : Scope} (h : NoCell sc) {x : Str} (q : sc.names.lookup x = some .cell ∨ sc.names.lookup x = some .free) : False := by
  rcases q with q | q
  · exact (h _ (PySem.mem_of_lookup q)).1 rfl
  · exact (h _ (PySem.mem_of_lookup q)).2 rfl
/-- a list or a dict -/
def isLK : HO → Prop
  | .lst _ => True
  | .dK _ => True
  | _ => False
theorem isLK.at {P : Program} {w : World} {H H' : Hp} {h h' : Heap} {a : Addr} {ho : HO} (l : isLK ho) (x : ObjOk P w H h a ho) (k : ∀ o, h.get? a = some o → h'.get? a = some o) : ObjOk P w H' h' a ho := by
  cases ho with
  | lst xs => obtain ⟨z, its, n, r, e⟩ := x; exact ⟨z, its, n, r, k _ e⟩
  | dK kvs => obtain ⟨z, y, vs, r, ob, es, ep, e, c⟩ := x; exact ⟨z, y, vs, r, ob, es, ep, k _ e, c⟩
  | _ => exact l.elim
theorem isLK.obj {P : Program} {w : World} {H : Hp} {h : Heap} {a : Addr} {ho : HO} (l : isLK ho) (x : ObjOk P w H h a ho) : ∃ o, h.get? a = some o ∧ ∀ v, o.data ≠ .cell v := by
  cases ho with
  | lst xs => obtain ⟨z, its, n, r, e⟩ := x; exact ⟨_, e, fun v q => by cases q⟩
  | dK kvs => obtain ⟨z, y, vs, r, ob, es, ep, e, _, d, _⟩ := x; exact ⟨_, e, fun v q => by rw [d] at q; cases q⟩
  | _ => exact l.elim
section
variable {C : GCt} {L G G' : List Ow} {b b' : GB}
theorem GCt.Ok.loc (h : C.Ok b) : (C.X b).env.locals = C.n0 := cut_size h.sz
/-- own lists and dicts -/
def isLD : D → Bool
  | .lst _ => true
  | .dk _ _ => true
  | _ => false
def ownsOk : List Ow → Rho → Bool
  | .o :: G, some d :: r => isLD d && ownsOk G r
  | _ :: G, _ :: r => ownsOk G r
  | _, _ => true
theorem ownsOk.get : ∀ {G : List Ow} {r : Rho} {i : Nat} {d : D}, ownsOk G r = true → kd G i = .o → r[i]? = some (some d) → isLD d = true
  | [], _, i, d, _, h, _ => by
    have : kd [] i = .v := by simp [kd]
    rw [this] at h; cases h
  | _ :: _, [], i, d, _, _, h => by simp at h
  | k :: G, x :: r, 0, d, h, hk, hr => by
    have hk : k = .o := hk
    have hr : x = some d := by simpa using hr
    subst hk hr
    unfold ownsOk at h
    exact (Bool.and_eq_true_iff.mp h).1
  | k :: G, x :: r, i + 1, d, h, hk, hr => by
    have hk : kd G i = .o := by
      show G.getD i .v = .o
      have : (k :: G).getD (i + 1) .v = .o := hk
      simpa using this
    have hr : r[i]? = some (some d) := by simpa using hr
    refine ownsOk.get (i := i) (G := G) (r := r) ?_ hk hr
    cases k with
    | o =>
      cases x with
      | none => exact h
      | some y => exact (Bool.and_eq_true_iff.mp h).2
    | _ => exact h
end
end Dx
end S_DxBX
section S_DxBY
set_option Elab.async false
set_option linter.all false
set_option maxRecDepth 100000
set_option maxHeartbeats 2000000
namespace Dx
open PySem L2
open PyProof.Rows hiding St
open GenW
/-- what stands in the table hands out ds as soon as it is woken -/
def Asl (C : GCt) (ds : List D) (gs : GenState) (pg : List (Addr × Obj)) (gl : List (Nat × GenState)) (S1 : Hp) : Prop := ∀ b', Wk C b' pg gl S1 → GoG (model C.P C.w) b'.A (Std C ds b') gs b'.s
end Dx
end S_DxBY
section S_DxBZ
set_option Elab.async false
set_option linter.all false
set_option maxRecDepth 100000
set_option maxHeartbeats 2000000
namespace Dx
open PySem L2
open PyProof.Rows hiding St
open GenW
section
variable {X : Cx} {pins : List (Addr × Obj)}
/-- all that the consumer has is older than the generator -/
structure Young (X : Cx) (pins : List (Addr × Obj)) (n : Nat) : Prop where
  s0 : X.s_0.heap.objs.size ≤ n
  loc : X.env.locals < n
  cell : ∀ x c, X.env.cells.lookup x = some c → c < n
  pin : ∀ q ∈ X.pn ++ pins, q.1 < n
/-- .. as it stands at s -/
structure SlpAt (C : GCt) (a : Addr) (g : Nat) (go : Obj) (ds : List D) (gs : GenState) (pg : List (Addr × Obj)) (gl : List (Nat × GenState)) (S1 : Hp) (s : Shared) : Prop where
  asl : Asl C ds gs pg gl S1
  hpg : ∀ q ∈ pg, C.n0 ≤ q.1
  hgo : (a, go) ∈ pg
  hgs : s.gens[g]? = some gs
  hng : ngG gs
  hgl : ∀ q ∈ gl, s.gens[q.1]? = some q.2 ∧ isSus q.2 = true ∧ ngG q.2 ∧ q.1 ≠ g
  hsz : C.n0 ≤ s.heap.objs.size
  hos : s.os = C.os
end
end Dx
end S_DxBZ
section S_DxCA
set_option Elab.async false
set_option linter.all false
set_option maxRecDepth 100000
set_option maxHeartbeats 2000000
namespace Dx
open PySem L2
open PyProof.Rows hiding St
open GenW
/-- it stands still as long as it is not woken -/
theorem SlpAt.keep {C : GCt} {a : Addr} {g : Nat} {go : Obj} {ds : List D} {gs : GenState} {pg : List (Addr × Obj)} {gl : List (Nat × GenState)} {S1 : Hp} {s s' : Shared} (h : SlpAt C a g go ds gs pg gl S1 s) (hs : isSus gs = true) (k : KeptG (fun _ => False) s s') (hsz : GoneN s s') (hos : s'.os = s.os) : SlpAt C a g go ds gs pg gl S1 s' :=
  ⟨h.asl, h.hpg, h.hgo, k g gs (fun z => z) h.hgs hs, h.hng, fun q hq => let ⟨h1, h2, h3, h4⟩ := h.hgl q hq; ⟨k q.1 q.2 (fun z => z) h1 h2, h2, h3, h4⟩, Nat.le_trans h.hsz hsz.1, hos.trans h.hos⟩
end Dx
end S_DxCA
section S_DxCB
set_option Elab.async false
set_option linter.all false
set_option maxRecDepth 100000
set_option maxHeartbeats 2000000
namespace Dx
open PySem L2
open PyProof.Rows hiding St
open GenW
theorem Aft.unbase {C : GCt} {b : GB} {S4 H4 S1 H1 : Hp} {z : Shared} (f : Fwd b.S b.H S4 H4) (h : Aft C { b with S := S4 } S1 H1 z) : Aft C b S1 H1 z := ⟨f.unbase h.fwd, h.un, h.hok, h.os, h.bare, h.gsz, h.pn⟩
theorem Std.unbase {C : GCt} {b : GB} {S4 H4 : Hp} (f : Fwd b.S b.H S4 H4) : ∀ {ds : List D} {e : End} {z : Shared}, Std C ds { b with S := S4 } e z → Std C ds b e z
  | [], .ret r, z, ⟨h, S1, H1, a⟩ => ⟨h, S1, H1, a.unbase f⟩
  | [], .susp _ _ _ _ _ _ _, z, h => h.elim
  | d :: ds, .ret r, z, h => h.elim
  | d :: ds, .susp v gd l k c p fs, z, ⟨h1, h2, x, S1, H1, pg, gl, h3, h4, a, h5, h6, h7, h8⟩ => ⟨h1, h2, x, S1, H1, pg, gl, h3, h4, a.unbase f, h5, h6, h7, h8⟩
section
variable {C : GCt} {L G G' : List Ow} {b : GB}
theorem GCt.Ok.S {S4 : Hp} (h : C.Ok b) : C.Ok { b with S := S4 } := ⟨h.room, h.fr, h.sz, h.os⟩
end
end Dx
end S_DxCB
section S_DxCC
set_option Elab.async false
set_option linter.all false
set_option maxRecDepth 100000
set_option maxHeartbeats 2000000
namespace Dx
open PySem L2
open PyProof.Rows hiding St
open GenW
end Dx
end S_DxCC
section S_DxCD
set_option Elab.async false
set_option linter.all false
set_option maxRecDepth 100000
set_option maxHeartbeats 2000000
namespace Dx
open PySem L2
open PyProof.Rows hiding St
open GenW
end Dx
end S_DxCD
section S_DxCE
set_option Elab.async false
set_option linter.all false
set_option maxRecDepth 100000
set_option maxHeartbeats 2000000
namespace L2N
open PySem L2
/-- around a body nothing is let out -/
theorem takes0 {X : Cx} {W : WX} (h : ∀ cls d σ H, ¬ W cls d σ H := by exact fun _ _ _ _ z => z) : L2N.Takes X W := by
  rintro _ _ ⟨_, _, _, _, _, _, _, _, _, _, _, _, _, _, _, _, z⟩
  exact (h _ _ _ _ z).elim
end L2N
namespace Dx
open PySem PySem.Spec L2 ItX PyProof.Rows
section
variable {X : Cx} {c : Cf} {L G G' : List Ow} {tg : Expr} {pos : Pos} {a : Expr}
theorem hot_suite {X : Cx} {a : Addr} {oe : Obj} {pn : List (Addr × Obj)} {C d : Addr} (hz : L2N.Zn (.ref C) (some d) oe) (hf : ∃ vs, oe.data = .fields vs) : L2H.HotC (X.suite a ((a, oe) :: pn)) := by
  obtain ⟨vs, hv⟩ := hf
  exact ⟨(a, oe), ⟨rfl, vs, hv, hz.2.2 vs hv⟩, List.mem_cons_self⟩
theorem piH_imp {it : Expr} {t t' : TI} (h : L2H.PIH X tg it t) (k : ∀ σ H R, t' σ H R → t σ H R) : L2H.PIH X tg it t' := ⟨fun pins s σ H R I q => h.run pins s σ H R I (k σ H R q)⟩
theorem di_rng1H {p : Pos} {fs : Rho → Res (List D)} (hm : X.mg "range" = none) (hg : Gl X "range") (ha : PA X [a] (tAs c G fs)) (hs : starEach [a] X.env = [(false, eval a X.env)] := by rfl) : L2H.PIH X tg (.Call (.Name "range" p) [a] [] pos) (iD c G (dIts rng1 fs)) :=
  piH_imp (L2H.pi_range1H hg hm ha hs) fun σ H R ⟨S0, H0, S, r, ok, p⟩ => rd_seq ok p fun ds vs S1 H1 w1 o1 m1 p1 => by
    unfold rng1 at p1
    split at p1
    · obtain ⟨hl, p1⟩ := p1.gd
      match vs, m1 with
      | _, .cons h .nil => cases h; exact ⟨_, rfl, by have := hl.1; omega, by have := hl.2; omega, p1.go o1.ex _ gives_rng⟩
    · exact p1.elim
theorem ds_forH {iter : Expr} {body : List Stmt} {its : Rho → Res (List D)} {ks : List Nat} {t : D → Rho → Res Rho} {F : Rho → SR} (hg : Gok c G) (hp : PassesOwn (model X.prog X.w) X.A X.env X.xe) (hc : L2H.HotC X) (hi : L2H.PIH X tg iter (iD c G its)) (ht : PG X tg (gD c G G' ks t)) (hb : PSs X body (sD c G G' G F))
    (hs : ∀ x, foldedSetIterable iter X.env x = pure x := by intro _; rfl) : PS X (.For tg iter body [] pos) (sD c L G G (forF its t F)) :=
  ps_imp (L2H.ps_forH hp hc hi ht hb hs) fun E σ H ⟨S0, H0, S, r, ok, p⟩ => by
    refine ⟨S0, H0, S, r, ok, ?_⟩
    unfold forF at p
    cases hf : its r with
    | err n ns vs =>
      rw [hf] at p
      exact fun C dd S' H' fs h1 fw h2 h3 h4 => p C dd σ S' H' fs h1 (ok.fwd.trans fw) (fun g q => by rw [hg g q]; exact ok.go fw) h2 h3 h4
    | bad => rw [hf] at p; exact p.elim
    | ok ds =>
      rw [hf] at p
      intro S1 H1 w1 J ⟨Gd, Y, wk, hG, hY⟩
      have p : PostS c S0 H0 L G (loopF t F ds r) E := p
      refine for_it wk (fun i σ' H' => ∃ S' r', Ex S1 S' ∧ EnvOk c S0 H0 G S' H' σ' r' ∧ PostS c S0 H0 L G (loopF t F (ds.drop i) r') E) ⟨S1, r, Ex.refl, ok.go w1, by rw [List.drop_zero]; exact p⟩ ?_ ?_ ?_
      · rintro i σ' H' _ ⟨S', r', e1, ok', _⟩
        exact hG S' H' e1 ok'.ex ok'.fwd.h
      · rintro i x σ' H' H2 hi ⟨S', r', e1, ok', p'⟩ y
        obtain ⟨S2, d, fw, hd, hx⟩ := hY i S' H' x H2 hi e1 ok'.ex y
        have hdrop : ds.drop i = d :: ds.drop (i + 1) := by
          rw [List.drop_eq_getElem_cons hi]
          rw [List.getElem?_eq_getElem hi] at hd
          cases hd; rfl
        rw [hdrop] at p'
        unfold loopF at p'
        refine ⟨S0, H0, S2, r', d, ok'.go fw, hx, ?_⟩
        cases htt : t d r' with
        | err _ _ _ => rw [htt] at p'; exact p'.elim
        | bad => rw [htt] at p'; exact p'.elim
        | ok r1 =>
          rw [htt] at p'
          intro σ3 _ ok3
          refine ⟨S2, H0, S2, r1, ok3.rebase, ?_⟩
          dsimp only at p'
          have fin : ∀ σ4 S4 H4 r4, EnvOk c S2 H0 G S4 H4 σ4 r4 → PostS c S0 H0 L G (loopF t F (ds.drop (i + 1)) r4) E → ∃ S' r', Ex S1 S' ∧ EnvOk c S0 H0 G S' H4 σ4 r' ∧ PostS c S0 H0 L G (loopF t F (ds.drop (i + 1)) r') E := fun σ4 S4 H4 r4 e4 p4 =>
            ⟨S4, r4, (e1.trans fw.s).trans e4.fwd.s, e4.unbase ok3.fwd, p4⟩
          cases hF : F r1 with
          | nx r2 => rw [hF] at p'; exact fun σ4 S4 H4 e4 => fin σ4 S4 H4 r2 e4 p'
          | ct r2 => rw [hF] at p'; exact fun σ4 S4 H4 e4 => fin σ4 S4 H4 r2 e4 p'
          | bk r2 => rw [hF] at p'; exact fun σ4 S4 H4 e4 => p' σ4 S4 H4 (e4.unbase ok3.fwd)
          | rt d => rw [hF] at p'; exact PostS.rebase (c := c) (o := .rt d) (E := E) ok3.fwd p'
          | er r2 n ns vs => rw [hF] at p'; exact PostS.rebase (c := c) (o := .er r2 n ns vs) (E := E) ok3.fwd p'
          | bad => rw [hF] at p'; exact p'.elim
      · rintro σ' H' ⟨S', r', e1, ok', p'⟩
        rw [List.drop_length] at p'
        exact p' σ' S' H' ok'
end
section
variable {X : Cx} {c : Cf} {G : List Ow} {e : Expr} {es : List Expr} {pos p : Pos} {k : Nat} {fa : Addr} {fd : FuncData} {ps : List Str} {ms : List Bool} {rm : Bool} {F : List D → Res D} {x : Str} {fs : Rho → Res (List D)}
theorem de_callH (F1 : L2H.FnH X.prog X.w X.K X.mg X.base (L2N.CX X.prog X.w) k fa fd ps (spD c.K c.cm ms rm F)) (tk : L2N.Takes X c.W) (hr : L2H.RoomH k X.A) (hc : L2H.HotC X) (hg : Gl X x) (hm : X.mg x = some (.ref fa)) (hk : PySem.W.keepIn X.K (.ref fa) = true) (hb : L2.Binds X.K fd ps [])
    (ha : PA X (e :: es) (tM c G ms fs)) (hdb : (x == ("__debug__" : Str)) = false := by decide) (he : starEach (e :: es) X.env = (false, eval e X.env) :: starEach es X.env := by rfl) (hpl : (backTo pos (starEach es X.env)).any (·.1) = false := by rfl) :
    PE X (.Call (.Name x p) (e :: es) [] pos) (rd c G (dCall F fs) (mR c rm)) :=
  pe_imp (L2H.pe_callH (E := fun σ cls d H => c.W cls d σ H) F1 hr hc hg hm hk hb (fun σ => L2N.passAt tk σ) ha hdb he hpl) fun σ H Q ⟨S0, H0, S, r, ok, q⟩ => rd_seq ok q fun ds vs S1 H1 w1 o1 m1 p1 =>
    call_rd (fun _ _ _ h => h) o1.ex m1 (p1.anti w1.h)
theorem de_callHV (F1 : L2H.FnH X.prog X.w X.K X.mg X.base (L2N.CX X.prog X.w) k fa fd ps (spD c.K c.cm ms false F)) (tk : L2N.Takes X c.W) (hr : L2H.RoomH k X.A) (hc : L2H.HotC X) (hg : Gl X x) (hm : X.mg x = some (.ref fa)) (hk : PySem.W.keepIn X.K (.ref fa) = true) (hb : L2.Binds X.K fd ps [])
    (ha : PA X (e :: es) (tM c G ms fs)) (hdb : (x == ("__debug__" : Str)) = false := by decide) (he : starEach (e :: es) X.env = (false, eval e X.env) :: starEach es X.env := by rfl) (hpl : (backTo pos (starEach es X.env)).any (·.1) = false := by rfl) :
    PE X (.Call (.Name x p) (e :: es) [] pos) (tV c G (dCall F fs)) := de_callH F1 tk hr hc hg hm hk hb ha hdb he hpl
end
section
variable {P : Program} {w : World} {K : PySem.W.Frag} {mg : Str → Option Value} {base : Heap} {cm : CM}
theorem fnh_bad {CX : CXT} {k : Nat} {f : Addr} {fd : FuncData} {ps : List Str} {ms : List Bool} {rm : Bool} : L2H.FnH P w K mg base CX k f fd ps (spD K cm ms rm fun _ => .bad) :=
  ⟨fun _ _ _ _ ⟨_, _, _, _, h⟩ => h.elim, fun _ _ _ _ _ _ _ _ _ _ _ _ _ _ _ _ ⟨_, _, _, _, h⟩ => h.elim⟩
theorem dokH {x qual : Str} {st : Stmt} {f : Addr} {fd : FuncData} {N ps : List Str} {k : Nat} {ms : List Bool} {rm : Bool} {G' : List Ow} {Fb : Rho → SR} (F : Fun K x qual st f fd) (S : FnScope N ps (defScope st)) (hm : ms.length = ps.length) (hn : ps.length ≤ N.length)
    (hb : ∀ (cdv : Value) (A : Around) (outer : List Env) (s : Shared) (H : Hp) (E : XK) (p : Addr × Obj), L2H.RoomH k (A.deeper (PyProof.Rows.envOfC qual (defScope st) s.heap.objs.size f cdv)) → L2H.HotC (L2H.cxH (L2N.CX P w) P w K mg base N qual (defScope st) f cdv A outer s H E p) →
      PSs (L2H.cxH (L2N.CX P w) P w K mg base N qual (defScope st) f cdv A outer s H E p) (defBody st) (sD (cfE K cm rm E) [] (G0 ms N.length) G' Fb)) :
    L2H.FnH P w K mg base (L2N.CX P w) (k + 1) f fd ps (spD K cm ms rm (runF N.length rm Fb)) := by
  obtain ⟨oc, od, kV, doc, pm, an, cdv, ct, osl, rfl, lk, hcd⟩ := F.ex
  refine L2H.fn_ofH lk hcd S (fun vs H Q E h => ?_) (fun A outer s H vs Q E p hot hr h => ?_)
  · obtain ⟨S, ds, _, m, _⟩ := h
    rw [m.len.1, hm]
  · obtain ⟨S, ds, ex, m, q⟩ := h
    refine ⟨_, hb cdv A outer s H E p hr ⟨p, hot, List.mem_cons_self⟩, S, H, S, startR N.length ds, env_start ex (RpM.cf (c := ⟨K, cm, fun _ _ _ _ => False, none, rm⟩) (c' := cfE K cm rm E) rfl rfl m) (by omega), ?_⟩
    unfold runF at q
    cases hF : Fb (startR N.length ds) with
    | rt d =>
      rw [hF] at q
      show PostS _ _ _ _ _ (.rt d) _
      unfold PostS
      dsimp only
      cases rm with
      | true => exact fun p ho S' H' fw n ns hp hh => q S' H' fw _ ⟨p, ho, rfl, n, ns, hp, hh⟩
      | false => exact fun v S' H' fw hv => q S' H' fw v hv
    | nx r =>
      rw [hF] at q
      cases rm with
      | true => exact q.elim
      | false => exact fun σ' S' H' ok => q S' H' ok.fwd _ Rp.non
    | er r n ns vs =>
      rw [hF] at q
      exact fun C dd σ' S' H' fs h1 fw _ h2 h3 h4 => q C dd S' H' fs h1 fw h2 h3 h4
    | bk r => rw [hF] at q; exact q.elim
    | ct r => rw [hF] at q; exact q.elim
    | bad => rw [hF] at q; exact q.elim
end
end Dx
end S_DxCE
section S_DxCF
set_option Elab.async false
set_option linter.all false
set_option maxRecDepth 100000
set_option maxHeartbeats 2000000
namespace Dx
open PySem L2
open PyProof.Rows hiding St
open GenW
end Dx
end S_DxCF
section S_DxCG
set_option Elab.async false
set_option linter.all false
set_option maxRecDepth 100000
set_option maxHeartbeats 2000000
namespace Dx
open PySem L2
open PyProof.Rows hiding St
section
variable {X : Cx} {pins : List (Addr × Obj)} {σ : L2.St} {n0 : Nat} {P : Addr}
/-- a step beside the sources -/
structure Mv (X : Cx) (pins : List (Addr × Obj)) (σ : L2.St) (n0 : Nat) (P : Addr) (pp pp' : List (Addr × Obj)) (S H S' H' : Hp) (s s' : Shared) : Prop where
  inv : ∀ own, (∀ q ∈ own, ∀ p ∈ pp, q.1 ≠ p.1) → Inv X (pins ++ pp ++ own) σ H s → Inv X (pins ++ pp' ++ own) σ H' s'
  sEx : Ex S S'
  sub : Ex S' H'
  hEx : ∀ q o, q ≠ P → H q = some o → H' q = some o
  gens : s'.gens = s.gens
  os : s'.os = s.os
  sz : s.heap.objs.size ≤ s'.heap.objs.size
  new : ∀ p ∈ pp', n0 ≤ p.1 ∧ (∀ u, p.2.data ≠ .cell u) ∧ ((∃ q ∈ pp, q.1 = p.1) ∨ s.heap.objs.size ≤ p.1)
theorem Mv.obj {pp pp' : List (Addr × Obj)} {S H : Hp} {s : Shared} {z : Addr} {o' : Obj} {h' : Heap} {t' : Nat} (yg : Young X pins n0) (hn : n0 ≤ z) (hm : ∃ p ∈ pp, p.1 = z) (e : Ex S H) (hk : ∀ b o, b ≠ z → s.heap.get? b = some o → h'.get? b = some o) (hz : h'.get? z = some o')
    (hsz : s.heap.objs.size ≤ h'.objs.size) (nc : ∀ u, o'.data ≠ .cell u) (hp : ∀ p ∈ pp', p = (z, o') ∨ (p.1 ≠ z ∧ p ∈ pp ∧ n0 ≤ p.1 ∧ ∀ u, p.2.data ≠ .cell u)) : Mv X pins σ n0 P pp pp' S H S H s { s with heap := h', toks := t' } where
  inv := fun own dj I => by
    obtain ⟨p0, hp0, rfl⟩ := hm
    obtain ⟨_, hH, hL, hF, _⟩ := I.pin p0 (List.mem_append_right _ (List.mem_append_left _ (List.mem_append_right _ hp0)))
    have I1 : Inv X (pins ++ pp.filter (fun q => decide (q.1 ≠ p0.1)) ++ own) σ H s := I.pins_of fun q hq => by
      refine I.pin q (List.mem_append_right _ ?_)
      rcases List.mem_append.mp hq with h | h
      · rcases List.mem_append.mp h with h | h
        · exact List.mem_append_left _ (List.mem_append_left _ h)
        · exact List.mem_append_left _ (List.mem_append_right _ (List.mem_filter.mp h).1)
      · exact List.mem_append_right _ h
    have I2 : Inv X (pins ++ pp.filter (fun q => decide (q.1 ≠ p0.1)) ++ own) σ H { s with heap := h', toks := t' } := I1.turned (it := p0.1) hk hH hL (.inr (Nat.le_trans yg.s0 hn)) (fun x c e2 q => absurd (yg.cell x c e2) (by rw [q]; exact Nat.not_lt.mpr hn)) fun p hp' q => by
      rcases List.mem_append.mp hp' with h | h
      · exact absurd (yg.pin p (List.mem_append_left _ h)) (by rw [q]; exact Nat.not_lt.mpr hn)
      · rcases List.mem_append.mp h with h | h
        · rcases List.mem_append.mp h with h | h
          · exact absurd (yg.pin p (List.mem_append_right _ h)) (by rw [q]; exact Nat.not_lt.mpr hn)
          · exact (of_decide_eq_true (List.mem_filter.mp h).2) q
        · exact dj p h p0 hp0 q
    refine I2.pins_of fun q hq => ?_
    rcases List.mem_append.mp hq with h | h
    · rcases List.mem_append.mp h with h | h
      · exact I2.pin q (List.mem_append_right _ (List.mem_append_left _ (List.mem_append_left _ h)))
      · rcases hp q h with rfl | ⟨h1, h2, _, _⟩
        · exact ⟨hz, hH, hL, hF, nc⟩
        · exact I2.pin q (List.mem_append_right _ (List.mem_append_left _ (List.mem_append_right _ (List.mem_filter.mpr ⟨h2, decide_eq_true h1⟩))))
    · exact I2.pin q (List.mem_append_right _ (List.mem_append_right _ h))
  sEx := Ex.refl
  sub := e
  hEx := fun _ _ _ q => q
  gens := rfl
  os := rfl
  sz := hsz
  new := fun p h => by
    rcases hp p h with rfl | ⟨_, h2, h3, h4⟩
    · exact ⟨hn, nc, .inl hm⟩
    · exact ⟨h3, h4, .inl ⟨p, h2, rfl⟩⟩
/-- a new tuple, tracked -/
theorem Mv.tup {pp : List (Addr × Obj)} {S H : Hp} {s : Shared} {t' : Nat} {xs : List V} {us : List Value} (hpp : ∀ p ∈ pp, n0 ≤ p.1 ∧ ∀ u, p.2.data ≠ .cell u) (e : Ex S H) (hH : H s.heap.objs.size = none) (hl : xs.length ≤ sizeLine) (rv : Vals xs us) :
    Mv X pins σ n0 P pp pp S H (upd S s.heap.objs.size (.tup xs)) (upd H s.heap.objs.size (.tup xs)) s { s with heap := s.heap.push { cls := .type "tuple", data := .seq us.toArray }, toks := t' } where
  inv := fun own dj I => I.laid (t' := t') (fun b o q => Heap.get?_push_of_some _ q) (Nat.le_refl _) ⟨hl, us, rv, IsTup.new s.heap _⟩
  sEx := Ex.new (e.nn hH)
  sub := e.both
  hEx := fun q o _ h => by rw [upd_ne (fun z => by rw [z, hH] at h; cases h)]; exact h
  gens := rfl
  os := rfl
  sz := by show _ ≤ (Heap.push _ _).objs.size; rw [Heap.size_push]; exact Nat.le_succ _
  new := fun p h => ⟨(hpp p h).1, (hpp p h).2, .inl ⟨p, h, rfl⟩⟩
end
end Dx
end S_DxCG
section S_DxCH
set_option Elab.async false
set_option linter.all false
set_option maxRecDepth 100000
set_option maxHeartbeats 2000000
namespace Dx
open PySem L2 PyProof.Rows
section
variable {X : Cx} {pins : List (Addr × Obj)} {σ : L2.St} {S H : Hp} {s : Shared} {cm : CM}
mutual
theorem nk_is (I : Inv X pins σ H s) (ex : Ex S H) : ∀ {d : D} {v : V} {u : Value} {k : NestedKey}, Rp X.K cm S v d → nkD d = some k → RelV v u → NestedIs s.heap k u
  | .non, _, _, _, h, q, r => by cases h; cases q; cases r; exact .none
  | .bl b, _, _, _, h, q, r => by cases h; cases q; cases r; exact .bool rfl
  | .int i, _, _, _, h, q, r => by cases h; cases q; obtain ⟨t, rfl⟩ := r; exact .int i t
  | .tup ds, _, _, _, h, q, r => by
    cases h with | @tup a xs _ hS rr =>
    cases r
    rw [nkD] at q
    obtain ⟨ks, h1, rfl⟩ := Option.map_eq_some_iff.mp q
    obtain ⟨its, rv, ⟨o, ho, hc, n, hd⟩, _⟩ := I.tuple (.inl (.inl (ex _ _ hS)))
    exact .tup ho hc hd (by simpa using nk_all I ex rr h1 rv)
  | .kt ds, _, _, _, h, q, r => by
    cases h with | @kt a xs _ hS rr =>
    cases r
    rw [nkD] at q
    obtain ⟨ks, h1, rfl⟩ := Option.map_eq_some_iff.mp q
    obtain ⟨its, rv, ⟨o, ho, hc, n, hd⟩, _⟩ := I.tuple (ex.t hS)
    exact .tup ho hc hd (by simpa using nk_all I ex rr h1 rv)
  | .str _, _, _, _, _, q, _ => by cases q
  | .lst _, _, _, _, _, q, _ => by cases q
  | .fz _, _, _, _, _, q, _ => by cases q
  | .dk _ _, _, _, _, _, q, _ => by cases q
  | .dt _ _, _, _, _, _, q, _ => by cases q
  | .dn _ _, _, _, _, _, q, _ => by cases q
  | .obj _ _ _, _, _, _, _, q, _ => by cases q
  | .own _, _, _, _, _, q, _ => by cases q
  | .st _ _, _, _, _, _, q, _ => by cases q
theorem nk_all (I : Inv X pins σ H s) (ex : Ex S H) : ∀ {ds : List D} {vs : List V} {us : List Value} {ks : List NestedKey}, RpA X.K cm S vs ds → nkL ds = some ks → Vals vs us → NestedAll s.heap ks us
  | [], _, _, _, h, q, r => by cases h; cases q; cases r; exact .nil
  | d :: ds, _, _, _, h, q, r => by
    cases h with | cons h1 h2 =>
    cases r with | cons r1 r2 =>
    rw [nkL] at q
    cases e1 : nkD d with
    | none => rw [e1] at q; cases q
    | some k =>
      cases e2 : nkL ds with
      | none => rw [e1, e2] at q; cases q
      | some ks =>
        rw [e1, e2] at q
        cases q
        exact .cons (nk_is I ex h1 e1 r1) (nk_all I ex h2 e2 r2)
end
theorem nkT_some {d : D} {k : NestedKey} (h : nkT d = some k) : nkD d = some k ∧ k.depth ≤ 8 ∧ ∃ ks, k = .tup ks := by
  unfold nkT at h
  split at h
  · rename_i ks e
    split at h
    · rename_i hd
      cases h
      exact ⟨e, hd, ks, rfl⟩
    · cases h
  · cases h
theorem nkT_is (I : Inv X pins σ H s) (ex : Ex S H) {d : D} {v : V} {k : NestedKey} (h : Rp X.K cm S v d) (q : nkT d = some k) : ∃ a, v = .ref a ∧ (nestedKind X.prog X.w).is s.heap k a := by
  obtain ⟨h1, h2, ks, rfl⟩ := nkT_some q
  have ref : ∃ a, v = .ref a := by
    cases d with
    | tup _ => cases h; exact ⟨_, rfl⟩
    | kt _ => cases h; exact ⟨_, rfl⟩
    | non => cases h1
    | bl _ => cases h1
    | int _ => cases h1
    | _ => cases h1
  obtain ⟨a, rfl⟩ := ref
  exact ⟨a, rfl, nk_is I ex h h1 rfl, h2⟩
theorem ext_at {q p : Addr} {es : List (NestedKey × Addr × V)} (I : Inv X pins σ H s) (h : Rd H q (.ext (dnP p es))) : p = q ∧ dnP p es s.heap := by
  have ok : ObjOk X.prog X.w H s.heap q (.ext (dnP p es)) := by
    rcases h with h | ⟨o, h⟩
    · exact I.hok q _ h
    · exact (I.hok q _ h).2
  obtain ⟨h1, _, st⟩ := ok
  refine ⟨?_, h1⟩
  apply Classical.byContradiction
  intro hne
  have h2 := st s.heap (PySem.W.hideAll s.heap [p]) h1 fun o e => PySem.W.hideAll_get _ e (by simp; exact fun z => hne z.symm)
  obtain ⟨_, _, o, _, _, _, ho, _⟩ := h2
  rw [PySem.W.hideAll_none _ (by simp)] at ho
  cases ho
theorem paired_get {α β : Type} {F : α → β → Prop} : ∀ {xs : List α} {ys : List β} {i : Nat} {x : α}, Paired F xs ys → xs[i]? = some x → ∃ y, ys[i]? = some y ∧ F x y
  | _, _, 0, _, .cons h _, e => by simp at e; subst e; exact ⟨_, by simp, h⟩
  | _, _, i + 1, x, .cons _ t, e => by
    obtain ⟨y, h1, h2⟩ := paired_get (i := i) (x := x) t (by simpa using e)
    exact ⟨y, by simpa using h1, h2⟩
  | _, _, _, _, .nil, e => by simp at e
theorem dn_at {q p : Addr} {es : List (NestedKey × Addr × V)} {ks : List D} (I : Inv X pins σ H s) (ex : Ex S H) (h : Rd H q (.ext (dnP p es))) (nk : NkOk es ks) (rk : RpA X.K cm S (es.map fun e => .ref e.2.1) ks) :
    p = q ∧ (q == sysModules) = false ∧ ∃ xs, Paired EntOk es xs ∧ s.heap.DictOfH (nestedKind X.prog X.w) q xs := by
  obtain ⟨rfl, hs, xs, o, eps, ep, rel, ho, hx, hd, he⟩ := ext_at I h
  refine ⟨rfl, hs, xs, rel, o, eps, ep, ho, hx, hd, he X.w, fun x hx => ?_, ?_⟩
  · obtain ⟨i, hi⟩ := List.getElem?_of_mem hx
    have hl := Paired.length rel
    have hlt : i < es.length := by rw [hl]; exact (List.getElem?_eq_some_iff.mp hi).1
    obtain ⟨e, hei⟩ : ∃ e, es[i]? = some e := ⟨es[i], List.getElem?_eq_getElem hlt⟩
    have en : EntOk e x := by
      obtain ⟨y, hy, q⟩ := paired_get rel hei
      rw [hi] at hy; cases hy
      exact q
    obtain ⟨d, hd1, hr⟩ := rk.getV (i := i) (v := .ref e.2.1) (by rw [List.getElem?_map, hei]; rfl)
    have hk : nkT d = some e.1 := by
      have := congrArg (fun l => l[i]?) nk.eq
      simp only [List.getElem?_map, hei, hd1, Option.map_some] at this
      exact Option.some.inj this
    obtain ⟨a, ha, is⟩ := nkT_is I ex hr hk
    cases ha
    rw [← en.1, ← en.2.1]
    exact is
  · have : xs.map (·.1) = es.map (·.1) := by
      clear he hd hx ho ex nk rk h I
      induction rel with
      | nil => rfl
      | cons h _ ih => rw [List.map_cons, List.map_cons, ih, h.1]
    rw [this]
    exact nk.nd
end
end Dx
end S_DxCH
section S_DxCI
set_option Elab.async false
set_option linter.all false
set_option maxRecDepth 100000
set_option maxHeartbeats 2000000
namespace Dx
open PySem L2 PyProof.Rows
section
variable {X : Cx} {c : Cf} {L G G' : List Ow} {a b e : Expr} {pos : Pos} {f f1 f2 : Rho → Res D} {k : Nat}
/-- the key v, the dict at q -/
structure KeyAt (K : PySem.W.Frag) (cm : CM) (S H : Hp) (y x : V) (n : NestedKey) (q p : Addr) (es : List (NestedKey × Addr × V)) (d : D) (ks : List D) : Prop where
  ex : Ex S H
  key : Rp K cm S y d
  nk : nkT d = some n
  rd : Rd H q (.ext (dnP p es))
  ok : NkOk es ks
  keys : RpA K cm S (es.map fun e => .ref e.2.1) ks
  eq : x = .ref q
theorem KeyAt.at {K : PySem.W.Frag} {cm : CM} {S H : Hp} {y x : V} {n : NestedKey} {q p : Addr} {es : List (NestedKey × Addr × V)} {d : D} {ks : List D} {pins : List (Addr × Obj)} {σ : L2.St} {s : Shared} {u w : Value} (h : KeyAt K cm S H y x n q p es d ks) (hK : K = X.K) (I : Inv X pins σ H s) (ry : RelV y u) (rx : RelV x w) :
    w = .ref q ∧ p = q ∧ (q == sysModules) = false ∧ ∃ a, u = .ref a ∧ (nestedKind X.prog X.w).is s.heap n a ∧ ∃ xs, Paired EntOk es xs ∧ s.heap.DictOfH (nestedKind X.prog X.w) q xs := by
  subst hK
  obtain ⟨a, rfl, hk⟩ := nkT_is I h.ex h.key h.nk
  obtain ⟨hp, hs, xs, rel, dd⟩ := dn_at I h.ex h.rd h.ok h.keys
  have := h.eq
  subst this
  exact ⟨rx, hp, hs, a, ry, hk, xs, rel, dd⟩
end
end Dx
end S_DxCI
section S_DxCJ
set_option Elab.async false
set_option linter.all false
set_option maxRecDepth 100000
set_option maxHeartbeats 2000000
namespace Dx
open PySem L2 PyProof.Rows
end Dx
end S_DxCJ
section S_DxCK
set_option Elab.async false
set_option linter.all false
set_option maxRecDepth 100000
set_option maxHeartbeats 2000000
namespace Dx
open PySem L2
section
variable {c : Cf} {S0 H0 S H S' H' : Hp} {G : List Ow} {σ : L2.St} {r : Rho}
/-- kinds: i a j, g and g' own containers, all else values -/
structure GJ (G : List Ow) (i g1 g2 : Nat) (a q p : Addr) (fs : List (Str × V)) : Prop where
  ki : kd G i = .j a fs
  k1 : kd G g1 = .i q
  k2 : kd G g2 = .i p
  kv : ∀ j, j ≠ i → j ≠ g1 → j ≠ g2 → kd G j = .v ∨ kd G j = .b
/-- a value, or what stays as it is -/
def VB (c : Cf) (G : List Ow) (S H0 : Hp) (j : Nat) (v : V) (d : D) : Prop := (kd G j = .v ∧ Rp c.K c.cm S v d) ∨ (kd G j = .b ∧ RpB c.K c.cm S H0 v d)
theorem VB.slot {c : Cf} {G : List Ow} {S H H0 : Hp} {j : Nat} {v : V} {d : D} (h : VB c G S H0 j v d) : SlotOk c H0 S H (kd G j) v d := by
  rcases h with ⟨h1, h2⟩ | ⟨h1, h2⟩
  · rw [h1]; exact h2
  · rw [h1]; exact h2
theorem VB.nO {c : Cf} {G : List Ow} {S H0 : Hp} {j : Nat} {v : V} {d : D} (h : VB c G S H0 j v d) : (∀ P, kd G j ≠ .s P) ∧ kd G j ≠ .w ∧ ¬ isO (kd G j) := by
  rcases h with ⟨h1, _⟩ | ⟨h1, _⟩ <;> rw [h1] <;> exact ⟨fun P z => (by cases z), fun z => (by cases z), fun z => z⟩
theorem VB.up {c : Cf} {G G' : List Ow} {S S' H0 H0' : Hp} {j : Nat} {v : V} {d : D} (h : VB c G S H0 j v d) (hk : kd G' j = kd G j) (e : Ex S S') (f : ∀ b o, H0 b = some o → H0' b = some o) : VB c G' S' H0' j v d := by
  rcases h with ⟨h1, h2⟩ | ⟨h1, h2 | ⟨p, ho, q1, q2, q3⟩⟩
  · exact .inl ⟨hk.trans h1, h2.mono e⟩
  · exact .inr ⟨hk.trans h1, .inl (h2.mono e)⟩
  · exact .inr ⟨hk.trans h1, .inr ⟨p, ho, q1, f _ _ q2, q3.mono e⟩⟩
theorem VB.of {c : Cf} {G : List Ow} {S H H0 : Hp} {j : Nat} {v : V} {d : D} (hk : kd G j = .v ∨ kd G j = .b) (h : SlotOk c H0 S H (kd G j) v d) : VB c G S H0 j v d := by
  rcases hk with hk | hk
  · rw [hk] at h; exact .inl ⟨hk, h⟩
  · rw [hk] at h; exact .inr ⟨hk, h⟩
theorem env_j {i g1 g2 : Nat} {a q p C dx : Addr} {fs : List (Str × V)} {n : Str} {hq hp : HO} {d1 d2 : D} (gj : GJ G i g1 g2 a q p fs) (ne : i ≠ g1 ∧ i ≠ g2 ∧ g1 ≠ g2) (hqp : q ≠ p) (fw : Fwd S0 H0 S H) (hl : σ.length = r.length) (hv : ∀ j d, j ≠ i → j ≠ g1 → j ≠ g2 → r[j]? = some (some d) → ∃ v, σ[j]? = some (some v) ∧ VB c G S H0 j v d)
    (ri : r[i]? = some (some (.obj n [] []))) (si : σ[i]? = some (some (.ref a))) (hcn : c.cm n = some C) (h0 : H0 a = some (.ins C dx fs)) (r1 : r[g1]? = some (some d1)) (s1 : σ[g1]? = some (some (.ref q))) (q1 : H q = some hq) (q2 : S q = none) (q3 : H0 q = none) (q4 : RpO c.K c.cm S hq d1)
    (r2 : r[g2]? = some (some d2)) (s2 : σ[g2]? = some (some (.ref p))) (p1 : H p = some hp) (p2 : S p = none) (p3 : H0 p = none) (p4 : RpO c.K c.cm S hp d2) : EnvOk c S0 H0 G S H σ r := by
  obtain ⟨n1, n2, n3⟩ := ne
  have own : ∀ j, isO (kd G j) → j = g1 ∨ j = g2 := fun j h => by
    by_cases e1 : j = g1
    · exact .inl e1
    · by_cases e2 : j = g2
      · exact .inr e2
      · exfalso
        by_cases e0 : j = i
        · rw [e0, gj.ki] at h; exact h
        · rcases gj.kv j e0 e1 e2 with z | z <;> rw [z] at h <;> exact h
  refine ⟨fw, hl, fun j d hj => ?_, fun j k d d' x hj hk kj kk sj sk => ?_, [], StoOk.nil fun j d hj => ?_⟩
  · by_cases e0 : j = i
    · subst e0
      rw [ri] at hj; cases hj
      exact ⟨_, si, by rw [gj.ki]; exact ⟨rfl, C, dx, n, hcn, h0, rfl⟩⟩
    · by_cases e1 : j = g1
      · subst e1
        rw [r1] at hj; cases hj
        exact ⟨_, s1, by rw [gj.k1]; exact ⟨rfl, q, hq, rfl, q1, q2, q3, q4⟩⟩
      · by_cases e2 : j = g2
        · subst e2
          rw [r2] at hj; cases hj
          exact ⟨_, s2, by rw [gj.k2]; exact ⟨rfl, p, hp, rfl, p1, p2, p3, p4⟩⟩
        · obtain ⟨v, z1, z2⟩ := hv j d e0 e1 e2 hj
          exact ⟨v, z1, z2.slot⟩
  · rcases own j kj with rfl | rfl
    · rcases own k kk with rfl | rfl
      · rfl
      · rw [s1] at sj; rw [s2] at sk
        cases sj; cases sk
        exact absurd rfl hqp
    · rcases own k kk with rfl | rfl
      · rw [s2] at sj; rw [s1] at sk
        cases sj; cases sk
        exact absurd rfl hqp
      · rfl
  · by_cases e0 : j = i
    · subst e0; rw [gj.ki]; exact ⟨fun P z => (by cases z), fun z => (by cases z)⟩
    · by_cases e1 : j = g1
      · subst e1; rw [gj.k1]; exact ⟨fun P z => (by cases z), fun z => (by cases z)⟩
      · by_cases e2 : j = g2
        · subst e2; rw [gj.k2]; exact ⟨fun P z => (by cases z), fun z => (by cases z)⟩
        · rcases gj.kv j e0 e1 e2 with z | z <;> rw [z] <;> exact ⟨fun P z => (by cases z), fun z => (by cases z)⟩
theorem env_0 (fw : Fwd S0 H0 S H) (hl : σ.length = r.length) (hv : ∀ (j : Nat) (d : D), r[j]? = some (some d) → ∃ v : V, σ[j]? = some (some v) ∧ VB c G S H0 j v d) : EnvOk c S0 H0 G S H σ r := by
  refine ⟨fw, hl, fun j d hj => ?_, fun j k d d' x hj hk2 kj kk sj sk => ?_, [], StoOk.nil fun j d hj => ?_⟩
  · obtain ⟨v, z1, z2⟩ := hv j d hj
    exact ⟨v, z1, z2.slot⟩
  · obtain ⟨v, z1, z2⟩ := hv j d hj
    exact absurd kj z2.nO.2.2
  · obtain ⟨v, z1, z2⟩ := hv j d hj
    exact ⟨z2.nO.1, z2.nO.2.1⟩
/-- kinds: i one's own object, all else values -/
theorem env_i {i : Nat} {a : Addr} {ho : HO} {d0 : D} (ki : kd G i = .i a) (fw : Fwd S0 H0 S H) (hl : σ.length = r.length) (hv : ∀ j d, j ≠ i → r[j]? = some (some d) → ∃ v, σ[j]? = some (some v) ∧ VB c G S H0 j v d) (ri : r[i]? = some (some d0)) (si : σ[i]? = some (some (.ref a)))
    (q1 : H a = some ho) (q2 : S a = none) (q3 : H0 a = none) (q4 : RpO c.K c.cm S ho d0) : EnvOk c S0 H0 G S H σ r := by
  have own : ∀ j d, r[j]? = some (some d) → isO (kd G j) → j = i := fun j d hj h => by
    apply Classical.byContradiction
    intro e
    obtain ⟨v, z1, z2⟩ := hv j d e hj
    exact z2.nO.2.2 h
  refine ⟨fw, hl, fun j d hj => ?_, fun j k d d' x hj hk2 kj kk sj sk => (own j d hj kj).trans (own k d' hk2 kk).symm, [], StoOk.nil fun j d hj => ?_⟩
  · by_cases e0 : j = i
    · subst e0
      rw [ri] at hj; cases hj
      exact ⟨_, si, by rw [ki]; exact ⟨rfl, a, ho, rfl, q1, q2, q3, q4⟩⟩
    · obtain ⟨v, z1, z2⟩ := hv j d e0 hj
      exact ⟨v, z1, z2.slot⟩
  · by_cases e0 : j = i
    · subst e0; rw [ki]; exact ⟨fun P z => (by cases z), fun z => (by cases z)⟩
    · obtain ⟨v, z1, z2⟩ := hv j d e0 hj
      exact ⟨z2.nO.1, z2.nO.2.1⟩
end
section
variable {X : Cx} {pins : List (Addr × Obj)}
theorem ghost_ok {σ : L2.St} {H : Hp} {s : Shared} {g : Nat} {y : Str} {v : Option V} (I : Inv X pins σ H s) (hN : X.N[g]? = some y) (hv : ¬ Vis X.env.scope y) : Inv X pins (σ.set g v) H s := by
  refine ⟨I.ok, I.os, I.bare, I.base, ?_, I.cell, I.free, I.freeC, I.pin, I.hok, by rw [List.length_set]; exact I.len⟩
  obtain ⟨m, hn, hl⟩ := I.loc
  refine ⟨m, hn, fun i x u e1 e2 e3 => ?_⟩
  by_cases h : g = i
  · subst h
    rw [hN] at e1; cases e1
    exact absurd e3 hv
  · rw [List.getElem?_set_ne h] at e2
    exact hl i x u e1 e2 e3
theorem pss_ghost {sts : List Stmt} {t t' : TS} (h : PSs X sts t) (g : Nat) {y : Str} (hN : X.N[g]? = some y) (hv : ¬ Vis X.env.scope y) (k : ∀ E σ H, t' E σ H → ∃ v, t E (σ.set g v) H) : PSs X sts t' := ⟨fun pins s σ H E I q => by
  obtain ⟨v, z⟩ := k _ _ _ q
  exact h.run pins s _ H E (ghost_ok I hN hv) z⟩
end
section
variable {X : Cx} {c : Cf} {L G G' : List Ow} {e : Expr} {pos apos cpos : Pos} {f f1 : Rho → Res D} {k : Nat} {x fl n : Str} {i g : Nat} {C a q : Addr} {fs : List (Str × V)} {pn p' : Pos}
/-- the slot i holds the object of the class n -/
def jIs (i : Nat) (n : Str) (r : Rho) : Res Unit := match r[i]? with
  | some (some (.obj c [] [])) => if c = n then .ok () else .bad
  | _ => .bad
theorem jIs_ok {S0 H0 S H : Hp} {σ : L2.St} {r : Rho} (ok : EnvOk c S0 H0 G S H σ r) (ki : kd G i = .j a fs) (h : jIs i n r = .ok ()) (hcn : c.cm n = some C) : σ[i]? = some (some (.ref a)) ∧ ∃ dx, H a = some (.ins C dx fs) := by
  unfold jIs at h
  split at h
  · rename_i c' hr
    split at h
    · rename_i hc
      subst hc
      obtain ⟨v, q1, q2⟩ := ok.slot i _ hr
      rw [ki] at q2
      obtain ⟨rfl, C', dx, n', z1, z2, z3⟩ := q2
      cases z3
      rw [hcn] at z1; cases z1
      exact ⟨q1, dx, ok.fwd.h _ _ z2⟩
    · cases h
  · cases h
theorem jIs_cases {r : Rho} : jIs i n r = .ok () ∨ jIs i n r = .bad := by
  unfold jIs
  split
  · split
    · exact .inl rfl
    · exact .inr rfl
  · exact .inr rfl
/-- x.f, read -/
def dJf (i g : Nat) (n : Str) : Rho → Res D := fun r => (jIs i n r).bind fun _ => dVar g r
theorem de_jfld (hcn : c.cm n = some C) (cl : Cls X.K C) (na : NoAttr X.K C fl) (ki : kd G i = .j a fs) (kg : kd G g = .i q) (hl : fs.lookup fl = some (.ref q)) (ho : PE X (.Name x pn) (tVar i))
    (hb : attributeBase (.Name x pn) fl X.env (eval (.Name x pn) X.env) = eval (.Name x pn) X.env := by rfl) : PE X (.Attribute (.Name x pn) fl apos) (tR c G (dJf i g n)) := pe_imp (pe_fld ho hb) fun σ H Q ⟨S0, H0, S, r, ok, p⟩ => by
  unfold dJf at p
  rcases jIs_cases (i := i) (n := n) (r := r) with h | h
  · obtain ⟨s1, dx, Ha⟩ := jIs_ok ok ki h hcn
    rw [h] at p
    have p : PostG c σ S H (dVar g r) (fun d S' H' => ∀ b, mB c H S' H' b d → Q b H') := p
    unfold dVar at p
    split at p
    · rename_i d hd
      obtain ⟨v, q1, q2⟩ := ok.slot g d hd
      rw [kg] at q2
      obtain ⟨rfl, p0, ho, z1, z2, z3, z4, z5⟩ := q2
      cases z1
      exact ⟨.ref a, s1, a, C, dx, fs, .ref q, rfl, Ha, cl, na, hl, p.go ok.ex _ (.inr ⟨q, ho, rfl, z2, z5⟩)⟩
    · exact p.elim
  · rw [h] at p; exact p.elim
/-- x.f.append(e) -/
noncomputable def appJF (i g : Nat) (n : Str) (f : Rho → Res D) : Rho → SR := fun r => liftS r (jIs i n r) fun _ => appF g f r
theorem ds_appJ (hg : Gok c G) (hcn : c.cm n = some C) (cl : Cls X.K C) (na : NoAttr X.K C fl) (ki : kd G i = .j a fs) (kg : kd G g = .i q) (hl : fs.lookup fl = some (.ref q)) (ho : PE X (.Name x pn) (tVar i)) (he : PE X e (tV c G f))
    (hb : attributeBase (.Name x pn) fl X.env (eval (.Name x pn) X.env) = eval (.Name x pn) X.env := by rfl) (hw : swapsWith (.Call (.Attribute (.Attribute (.Name x pn) fl p') "append" apos) [e] [] cpos) none pos.line X.env = pure false := by rfl)
    (hbase : attributeBase (.Attribute (.Name x pn) fl p') "append" X.env (eval (.Attribute (.Name x pn) fl p') X.env) = eval (.Attribute (.Name x pn) fl p') X.env := by rfl)
    (hfew : ((backTo cpos (starEach [e] X.env)).all (fun x => !x.1) && (backToKw cpos (keywordEach [] X.env)).all (fun x => x.1.isSome) && decide ([e].length + ([] : List Keyword).length + (if ([] : List Keyword).isEmpty then 0 else 1) < 30)) = true := by rfl)
    (hline : (apos.endLine == cpos.line) = true := by rfl) (hs : starEach [e] X.env = (false, eval e X.env) :: starEach [] X.env := by rfl) :
    PS X (.Expr (.Call (.Attribute (.Attribute (.Name x pn) fl p') "append" apos) [e] [] cpos) pos) (sD c L G G (appJF i g n f)) :=
  ps_imp (ps_expr (pe_app (pe_fld ho hb) he hbase hfew hline hs) hw) fun E σ H ⟨S0, H0, S, r, ok, p⟩ => by
    unfold appJF at p
    rcases jIs_cases (i := i) (n := n) (r := r) with h | h
    · obtain ⟨s1, dx, Ha⟩ := jIs_ok ok ki h hcn
      rw [h] at p
      have p : PostS c S0 H0 L G (appF g f r) E := p
      unfold appF ownL at p
      split at p
      · rename_i ds hd
        obtain ⟨v, q1, q2⟩ := ok.slot g _ hd
        rw [kg] at q2
        obtain ⟨rfl, p0, ho', z1, z2, z3, z4, z5⟩ := q2
        cases z1
        cases z5 with | @lst xs _ rr =>
        refine ⟨.ref a, s1, a, C, dx, fs, .ref q, rfl, Ha, cl, na, hl, .inl ⟨rfl, xs, .inl (.inl z2)⟩, st_seq hg ok p fun d v S1 H1 w1 o1 m1 p2 => ?_⟩
        obtain ⟨hl', p2⟩ := p2.gd
        exact ⟨q, xs, v, rfl, rfl, w1.h _ _ z2, by rw [rr.length]; exact hl', p2 σ S1 _ (o1.mutI (by rw [kg]; trivial) hd q1 (.lst ((rr.mono w1.s).app (.one m1))))⟩
      · exact p.elim
    · rw [h] at p; exact p.elim
/-- x.f[e'] = e -/
noncomputable def putJF (i g : Nat) (n : Str) (fk f : Rho → Res D) : Rho → SR := fun r => liftS r (jIs i n r) fun _ => putF g fk f r
theorem ds_putJ {ix : Expr} {fk : Rho → Res D} {pa : Pos} (hg : Gok c G) (hr : Room k X.A) (hcn : c.cm n = some C) (cl : Cls X.K C) (na : NoAttr X.K C fl) (ki : kd G i = .j a fs) (kg : kd G g = .i q) (hl : fs.lookup fl = some (.ref q)) (ho : PE X (.Name x pn) (tVar i)) (hi : PE X ix (tV c G fk)) (he : PE X e (tV c G f))
    (hb : attributeBase (.Name x pn) fl X.env (eval (.Name x pn) X.env) = eval (.Name x pn) X.env := by rfl)
    (hs : swapsWith e (some (.Subscript (.Attribute (.Name x pn) fl pa) ix p')) pos.line X.env = pure false := by rfl) : PS X (.Assign [.Subscript (.Attribute (.Name x pn) fl pa) ix p'] e pos) (sD c L G G (putJF i g n fk f)) :=
  ps_imp (ps_dput (by have := hr.units; omega) (pe_fld ho hb) hi he hs) fun E σ H ⟨S0, H0, S, r, ok, p⟩ => by
    unfold putJF at p
    rcases jIs_cases (i := i) (n := n) (r := r) with h | h
    · obtain ⟨s1, dx, Ha⟩ := jIs_ok ok ki h hcn
      rw [h] at p
      have p : PostS c S0 H0 L G (putF g fk f r) E := p
      unfold putF at p
      refine st_seq hg ok p fun d v S1 H1 w1 o1 m1 p1 => ?_
      cases hK : ownK g r with
      | err n ns vs => exfalso; unfold ownK at hK; split at hK <;> cases hK
      | bad => rw [hK] at p1; exact p1.elim
      | ok o =>
        rw [hK] at p1
        unfold ownK at hK
        split at hK
        · rename_i ks vs hd
          cases hK
          obtain ⟨v', q1, q2⟩ := o1.slot g _ hd
          rw [kg] at q2
          obtain ⟨rfl, p0, ho', z1, z2, z3, z4, z5⟩ := q2
          cases z1
          cases z5 with
          | @dk kvs _ _ hks hvs =>
            subst hks
            refine ⟨.ref a, s1, a, C, dx, fs, .ref q, rfl, w1.h _ _ Ha, cl, na, hl, st_seq hg o1 p1 fun kd' kv S2 H2 w2 o2 m2 p2 => ?_⟩
            unfold asK at p2
            split at p2
            · rename_i xk hx
              have hxk : keyD kd' = some xk := hx
              obtain ⟨hl', p3⟩ := p2.gd
              have hq2 : H2 q = some (.dK kvs) := w2.h _ _ z2
              have pr := put_rp (k := xk) (m1.mono w2.s) (hvs.mono w2.s)
              have hl2 : kvs.length < sizeLine := by simpa using hl'
              have hkv := key_v (H := H2) (.inl m2) hxk
              subst hkv
              exact ⟨q, _, rfl, DPut.k hq2 hl2, p3 σ S2 _ (o2.mutI (by rw [kg]; trivial) hd q1 (.dk pr.1 pr.2))⟩
            · exact p2.elim
        · cases hK
    · rw [h] at p; exact p.elim
/-- two fields that are empty containers, a statement that fills them, the rest -/
def gramS (i g1 g2 jb : Nat) (n f0 fl1 fl2 : Str) (Fl F : Rho → SR) : Rho → SR := fun r => match r[i]? with
  | some (some (.obj c [f] [d0])) => if c = n ∧ f = f0 ∧ g1 < r.length ∧ g2 < r.length then (match Fl (((r.set i (some (.obj n [] []))).set g1 (some (.lst []))).set g2 (some (.dk [] []))) with
    | .nx r' => (match r'[i]?, r'[g1]?, r'[g2]? with
      | some (some (.obj _ [] [])), some (some (.lst ds)), some (some (.dk ks vs)) => F ((((r'.set i (some (.obj n [f0, fl1, fl2] [d0, .lst ds, .dk ks vs]))).set g1 none).set g2 none).set jb none)
      | _, _, _ => .bad)
    | .er r' m ns vs => .er r' m ns vs
    | _ => .bad) else .bad
  | _ => .bad
theorem old_ins {C dx : Addr} {fs : List (Str × V)} {o : Option HO} (h : Old o) (e : o = some (.ins C dx fs)) : False := by
  rw [e] at h
  rcases h with h | ⟨xs, h⟩
  · cases h
  · cases h
theorem ds_gram {i g1 g2 jb : Nat} {n f0 fl1 fl2 x y1 y2 : Str} {C a : Addr} {e1 e2 : Expr} {loop : Stmt} {rest : List Stmt} {pn pm p1 p2 pos1 pos2 : Pos} {z1 z2 : Rho → Res D} {Fl F : Rho → SR} {Gj : Addr → Addr → V → List Ow} (hge : ∀ g, c.ge ≠ some g) (ne : i ≠ g1 ∧ i ≠ g2 ∧ g1 ≠ g2) (nf : f0 ≠ fl1 ∧ f0 ≠ fl2 ∧ fl1 ≠ fl2)
    (hcn : c.cm n = some C) (cl : Cls X.K C) (na1 : NoAttr X.K C fl1) (na2 : NoAttr X.K C fl2) (ki : kd G i = .i a) (hib : i ≠ jb) (hk : ∀ j, j ≠ i → kd G j = .v ∨ (kd G j = .b ∧ j = jb)) (ho : PE X (.Name x pn) (tVar i)) (ho2 : PE X (.Name x pm) (tVar i)) (he1 : PE X e1 (tO c G z1)) (hz1 : ∀ r, z1 r = .ok (.lst [])) (he2 : PE X e2 (tO c G z2)) (hz2 : ∀ r, z2 r = .ok (.dk [] []))
    (hN1 : X.N[g1]? = some y1) (hv1 : ¬ Vis X.env.scope y1) (hN2 : X.N[g2]? = some y2) (hv2 : ¬ Vis X.env.scope y2) (gj : ∀ q p v0, GJ (Gj q p v0) i g1 g2 a q p [(f0, v0), (fl1, .ref q), (fl2, .ref p)]) (gk : ∀ q p v0 j, j ≠ i → j ≠ g1 → j ≠ g2 → kd (Gj q p v0) j = kd G j) (hloop : ∀ q p v0, PS X loop (sD c [] (Gj q p v0) (Gj q p v0) Fl)) (hrest : PSs X rest (sD c L G G' F))
    (hs1 : swapsWith e1 (some (.Attribute (.Name x pn) fl1 p1)) pos1.line X.env = pure false := by rfl) (hs2 : swapsWith e2 (some (.Attribute (.Name x pm) fl2 p2)) pos2.line X.env = pure false := by rfl) :
    PSs X (.Assign [.Attribute (.Name x pn) fl1 p1] e1 pos1 :: .Assign [.Attribute (.Name x pm) fl2 p2] e2 pos2 :: loop :: rest) (sD c L G G' (gramS i g1 g2 jb n f0 fl1 fl2 Fl F)) := by
  have hl : PS X loop (fun E σ H => ∃ q p v0, sD c [] (Gj q p v0) (Gj q p v0) Fl E σ H) := ⟨fun pins s σ H E I ⟨q, p, v0, h⟩ => (hloop q p v0).run pins s σ H E I h⟩
  have h3 := pss_cons hl (pss_lock hrest (t2 := fun E σ H => Lo (fun H => sD c L G G' F E σ H) H) fun E σ H h => h)
  have h2 := pss_ghost (pss_ghost h3 g2 hN2 hv2 (t' := fun E σ H => ∃ v, tSeq (fun E σ H => ∃ q p v0, sD c [] (Gj q p v0) (Gj q p v0) Fl E σ H) (fun E σ H => Lo (fun H => sD c L G G' F E σ H) H) E (σ.set g2 v) H) fun E σ H h => h) g1 hN1 hv1
    (t' := fun E σ H => ∃ v1 v2, tSeq (fun E σ H => ∃ q p v0, sD c [] (Gj q p v0) (Gj q p v0) Fl E σ H) (fun E σ H => Lo (fun H => sD c L G G' F E σ H) H) E ((σ.set g1 v1).set g2 v2) H) fun E σ H h => h
  refine pss_imp (pss_cons (ps_fld ho he1 hs1) (pss_cons (ps_fld ho2 he2 hs2) h2)) fun E σ H ⟨S0, H0, S, r, ok, pp⟩ => ?_
  unfold gramS at pp
  split at pp
  · rename_i c' f' d0 hr
    by_cases hc : c' = n ∧ f' = f0 ∧ g1 < r.length ∧ g2 < r.length
    · rw [if_pos hc] at pp
      obtain ⟨rfl, rfl, hl1, hl2⟩ := hc
      obtain ⟨v, sa, so⟩ := ok.slot i _ hr
      rw [ki] at so
      obtain ⟨rfl, a0, ho0, z, Ha, Sa, H0a, rp⟩ := so
      cases z
      cases rp with | @obj C' dx _ fs _ _ hc1 hc2 hc3 =>
      rw [hcn] at hc1; cases hc1
      obtain ⟨v0, rfl⟩ : ∃ v0, fs = [(f', v0)] := by
        match fs, hc2 with
        | [(g, v0)], h => simp at h; exact ⟨v0, by rw [h]⟩
      cases hc3 with | cons hv0 _ =>
      refine ⟨S0, H0, S, r, ok, ?_⟩
      rw [hz1]
      intro S1 H1 w1 yv hy
      obtain ⟨q, hoq, rfl, nq, Sq, Hq, rq⟩ := hy
      cases rq with | lst rxs =>
      cases rxs
      have qa : q ≠ a := fun z => by rw [z, Ha] at nq; cases nq
      have Ha1 := w1.h a _ Ha
      have S1a : S1 a = none := by
        cases q : S1 a with
        | none => rfl
        | some o => exact (old_ins (w1.new a o q Sa) Ha).elim
      refine ⟨.ref a, sa, a, C, dx, [(f', v0)], rfl, Ha1, cl, na1, by show 1 < 1000; decide, ?_⟩
      have e1' : L2.putF fl1 (.ref q) [(f', v0)] = [(f', v0), (fl1, .ref q)] := by
        unfold L2.putF; rw [if_neg nf.1]; rfl
      rw [e1']
      have ok1 := ok.go w1
      have oth : ∀ (j : Nat) d, (r.set i none)[j]? = some (some d) → j ≠ i ∧ r[j]? = some (some d) := fun j d h => by
        rcases set_some h with ⟨_, z, _⟩ | ⟨z, h⟩
        · cases z
        · exact ⟨Ne.symm z, h⟩
      have okA : EnvOk c S0 (upd H0 a (.ins C dx [(f', v0), (fl1, .ref q)])) G S1 (upd H1 a (.ins C dx [(f', v0), (fl1, .ref q)])) σ (r.set i none) := by
        have up0 : ∀ b o, H0 b = some o → upd H0 a (.ins C dx [(f', v0), (fl1, .ref q)]) b = some o := fun b o h => by
          have : b ≠ a := fun z => by rw [z, H0a] at h; cases h
          rw [upd_ne this]; exact h
        refine env_0 ⟨ok1.fwd.s, ok1.fwd.h.both, ok1.fwd.sub.put S1a, fun b o hb n0 => ?_⟩ (by rw [List.length_set]; exact ok1.len) fun j d h => ?_
        · have : b ≠ a := fun z => by rw [z, S1a] at hb; cases hb
          rw [upd_ne this]
          exact ok1.fwd.new b o hb n0
        · obtain ⟨nj, hj⟩ := oth j d h
          obtain ⟨u, u1, u2⟩ := ok1.slot j d hj
          exact ⟨u, u1, (VB.of ((hk j nj).imp id fun z => z.1) u2).up rfl Ex.refl up0⟩
      refine ⟨S0, _, S1, r.set i none, okA, ?_⟩
      rw [hz2]
      intro S2 H2 w2 yv2 hy2
      obtain ⟨p, hop, rfl, np, Sp, Hp', rp2⟩ := hy2
      cases rp2 with | @dk kvs _ _ hks hvs =>
      have kn : kvs = [] := by cases kvs with | nil => rfl | cons _ _ => cases hks
      subst kn
      have Ha2 : H2 a = some (.ins C dx [(f', v0), (fl1, .ref q)]) := w2.h a _ upd_same
      have pa : p ≠ a := fun z => by rw [z, upd_same] at np; cases np
      rw [upd_ne pa] at np
      have Hq2 : H2 q = some (.lst []) := w2.h q _ (by rw [upd_ne qa]; exact Hq)
      have qp : q ≠ p := fun z => by rw [z, np] at Hq; cases Hq
      have S2a : S2 a = none := by
        cases h : S2 a with
        | none => rfl
        | some o => exact (old_ins (w2.new a o h S1a) upd_same).elim
      have S2q : S2 q = none := by
        cases h : S2 q with
        | none => rfl
        | some o =>
          obtain ⟨xs, z⟩ := (w2.new q o h Sq).not (by rw [upd_ne qa]; exact Hq)
          cases z
      have H0q : H0 q = none := ok.fwd.h.nn nq
      have H0p : H0 p = none := ok1.fwd.h.nn np
      refine ⟨.ref a, sa, a, C, dx, [(f', v0), (fl1, .ref q)], rfl, Ha2, cl, na2, by show 2 < 1000; decide, ?_⟩
      have e2' : L2.putF fl2 (.ref p) [(f', v0), (fl1, .ref q)] = [(f', v0), (fl1, .ref q), (fl2, .ref p)] := by
        unfold L2.putF; rw [if_neg nf.2.1]
        unfold L2.putF; rw [if_neg nf.2.2]; rfl
      rw [e2']
      generalize hins : HO.ins C dx [(f', v0), (fl1, .ref q), (fl2, .ref p)] = ins2
      have hEx : ∀ b o, b ≠ a → H0 b = some o → H2 b = some o := fun b o hb h => w2.h b o (by rw [upd_ne hb]; exact ok1.fwd.h b o h)
      have s02 : Ex S0 S2 := ok1.fwd.s.trans w2.s
      have new2 : ∀ b o, S2 b = some o → S0 b = none → Old (H0 b) := fun b o hb n0 => by
        have hba : b ≠ a := fun z => by rw [z, S2a] at hb; cases hb
        cases h : S1 b with
        | some o' => exact ok1.fwd.new b o' h n0
        | none =>
          have z := w2.new b o hb h
          rw [upd_ne hba] at z
          exact z.back ok1.fwd.h
      have old0 : ∀ b, Old (upd H0 a ins2 b) → Old (H0 b) := fun b h => by
        by_cases hb : b = a
        · subst hb
          rw [upd_same, ← hins] at h
          exact (old_ins h rfl).elim
        · rw [upd_ne hb] at h; exact h
      have back : ∀ {S' H' : Hp}, Fwd S2 (upd H0 a ins2) S' H' → Fwd S0 H0 S' H' := fun {S' H'} f => by
        refine ⟨s02.trans f.s, fun b o h => f.h b o ?_, f.sub, fun b o hb n0 => ?_⟩
        · have : b ≠ a := fun z => by rw [z, H0a] at h; cases h
          rw [upd_ne this]; exact h
        · cases h : S2 b with
          | some o' => exact new2 b o' h n0
          | none => exact old0 b (f.new b o hb h)
      have lj : (((r.set i (some (D.obj c' [] []))).set g1 (some (.lst []))).set g2 (some (.dk [] []))).length = r.length := by simp
      have sl : σ.length = r.length := ok.len
      refine ⟨some (.ref q), some (.ref p), q, p, v0, S2, upd H0 a ins2, S2, ((r.set i (some (.obj c' [] []))).set g1 (some (.lst []))).set g2 (some (.dk [] [])), ?_, ?_⟩
      · subst hins
        obtain ⟨n1, n2, n3⟩ := ne
        have il : i < r.length := (List.getElem?_eq_some_iff.mp hr).1
        refine env_j (gj q p v0) ⟨n1, n2, n3⟩ qp ⟨Ex.refl, fun b o h => ?_, w2.sub.put S2a, fun b o h n0 => by rw [n0] at h; cases h⟩ (by simp [sl]) (fun j d h0 h1 h2 hj => ?_) ?_ ?_ hcn upd_same ?_ ?_ (by rw [upd_ne qa]; exact Hq2) S2q (by rw [upd_ne qa]; exact H0q) (.lst .nil) ?_ ?_ (by rw [upd_ne pa]; exact Hp') Sp (by rw [upd_ne pa]; exact H0p) (.dk rfl .nil)
        · by_cases hb : b = a
          · subst hb; rw [upd_same] at h ⊢; exact h
          · rw [upd_ne hb] at h ⊢; exact hEx b o hb h
        · rw [List.getElem?_set_ne (Ne.symm h2), List.getElem?_set_ne (Ne.symm h1), List.getElem?_set_ne (Ne.symm h0)] at hj
          obtain ⟨u, u1, u2⟩ := ok.slot j d hj
          exact ⟨u, by rw [List.getElem?_set_ne (Ne.symm h2), List.getElem?_set_ne (Ne.symm h1)]; exact u1, (VB.of ((hk j h0).imp id fun z => z.1) u2).up (gk q p v0 j h0 h1 h2) (w1.s.trans w2.s) fun b o h => by
            have : b ≠ a := fun z => by rw [z, H0a] at h; cases h
            rw [upd_ne this]; exact h⟩
        · rw [List.getElem?_set_ne (Ne.symm n2), List.getElem?_set_ne (Ne.symm n1), List.getElem?_set_self il]
        · rw [List.getElem?_set_ne (Ne.symm n2), List.getElem?_set_ne (Ne.symm n1)]; exact sa
        · rw [List.getElem?_set_ne (Ne.symm n3), List.getElem?_set_self (by simpa using hl1)]
        · rw [List.getElem?_set_ne (Ne.symm n3), List.getElem?_set_self (by rw [sl]; exact hl1)]
        · rw [List.getElem?_set_self (by simpa using hl2)]; rfl
        · rw [List.getElem?_set_self (by simpa [sl] using hl2)]
      · cases hF : Fl (((r.set i (some (.obj c' [] []))).set g1 (some (.lst []))).set g2 (some (.dk [] []))) with
        | nx r' =>
          rw [hF] at pp
          intro σ' S' H' e'
          show Lo (fun H => sD c L G G' F E σ' H) H'
          dsimp only at pp
          split at pp
          · rename_i c2 ds ks vs ri r1 r2
            have GJ' := gj q p v0
            obtain ⟨u0, si, so⟩ := e'.slot i _ ri
            rw [GJ'.ki] at so
            obtain ⟨rfl, _⟩ := so
            obtain ⟨u1, s1, so1⟩ := e'.slot g1 _ r1
            rw [GJ'.k1] at so1
            obtain ⟨rfl, q', hoq, zq, q1, q2, q3, q4⟩ := so1
            cases zq
            obtain ⟨u2, s2, so2⟩ := e'.slot g2 _ r2
            rw [GJ'.k2] at so2
            obtain ⟨rfl, p', hop', zp, p1', p2', p3', p4'⟩ := so2
            cases zp
            cases q4 with | @lst xs _ rxs =>
            cases p4' with | @dk kvs _ _ hks' hvs' =>
            have Ha' : H' a = some ins2 := e'.fwd.h a _ upd_same
            have S'a : S' a = none := by
              cases h : S' a with
              | none => rfl
              | some o => exact (old_ins (e'.fwd.new a o h S2a) (by rw [upd_same, ← hins])).elim
            refine .inr ⟨p, .dK kvs, p1', trivial, fun w => ?_⟩
            have exq : Ex S' (upd S' q (.lst xs)) := Ex.new q2
            have exp : Ex (upd S' q (.lst xs)) (upd (upd S' q (.lst xs)) p (.frz w (.dK kvs))) := Ex.new (by rw [upd_ne (Ne.symm qp)]; exact p2')
            have exS := exq.trans exp
            have fb := back e'.fwd
            obtain ⟨n1, n2, n3⟩ := ne
            have il : i < r'.length := (List.getElem?_eq_some_iff.mp ri).1
            refine ⟨S0, H0, upd (upd S' q (.lst xs)) p (.frz w (.dK kvs)), _, env_i ki ⟨fb.s.trans exS, fun b o h => ?_, fun b o h => ?_, fun b o h n0 => ?_⟩ (by simp [e'.len]) (fun j d h0 hj => ?_) ?_ si (ho := ins2) ?_ ?_ H0a (by rw [← hins]; exact .obj hcn rfl (.cons (Rp.mono (((w1.s.trans w2.s).trans e'.fwd.s).trans exS) hv0) (.cons (.lst (exp _ _ upd_same) (rxs.mono exS)) (.cons (.dk upd_same hks' (hvs'.mono exS)) .nil)))), pp⟩
            · have : b ≠ p := fun z => by rw [z, H0p] at h; cases h
              rw [upd_ne this]
              exact fb.h b o h
            · by_cases hb : b = p
              · subst hb; rw [upd_same] at h ⊢; exact h
              · rw [upd_ne hb] at h ⊢
                by_cases hb2 : b = q
                · subst hb2; rw [upd_same] at h; cases h; exact q1
                · rw [upd_ne hb2] at h; exact fb.sub b o h
            · by_cases hb : b = p
              · subst hb; exact .inl H0p
              · rw [upd_ne hb] at h
                by_cases hb2 : b = q
                · subst hb2; exact .inl H0q
                · rw [upd_ne hb2] at h; exact fb.new b o h n0
            · rcases set_some hj with ⟨_, z, _⟩ | ⟨mb, hj⟩
              · cases z
              rcases set_some hj with ⟨_, z, _⟩ | ⟨m2, hj⟩
              · cases z
              · rcases set_some hj with ⟨_, z, _⟩ | ⟨m1, hj⟩
                · cases z
                · rw [List.getElem?_set_ne (Ne.symm h0)] at hj
                  obtain ⟨u, z1, z2⟩ := e'.slot j d hj
                  have kg := gk q p v0 j h0 (Ne.symm m1) (Ne.symm m2)
                  rcases hk j h0 with kv | ⟨_, z⟩
                  · rw [kg, kv] at z2
                    exact ⟨u, z1, .inl ⟨kv, Rp.mono exS z2⟩⟩
                  · exact absurd z (Ne.symm mb)
            · rw [List.getElem?_set_ne (Ne.symm hib), List.getElem?_set_ne (Ne.symm n2), List.getElem?_set_ne (Ne.symm n1), List.getElem?_set_self il]; rfl
            · rw [upd_ne (Ne.symm pa)]; exact Ha'
            · rw [upd_ne (Ne.symm pa), upd_ne (Ne.symm qa)]; exact S'a
          · exact pp.elim
        | er r' m ns vs =>
          rw [hF] at pp
          intro C1 dd σ' S' H' fs' h1 fw _ h2 h3 h4
          exact pp C1 dd σ' S' H' fs' h1 (back fw) (fun g hg => absurd hg (hge g)) h2 h3 h4
        | rt d => rw [hF] at pp; exact pp.elim
        | bk r' => rw [hF] at pp; exact pp.elim
        | ct r' => rw [hF] at pp; exact pp.elim
        | bad => rw [hF] at pp; exact pp.elim
    · rw [if_neg hc] at pp; exact pp.elim
  · exact pp.elim
end
end Dx
end S_DxCK
section S_DxCL
set_option Elab.async false
set_option linter.all false
set_option maxRecDepth 100000
set_option maxHeartbeats 2000000
namespace Dx
open PySem L2
section
variable {X : Cx} {c : Cf} {L G : List Ow} {pos apos cpos : Pos}
theorem dLst_nil (r : Rho) : dLst dNil r = .ok (.lst []) := by
  show mkLst [] = _
  unfold mkLst
  exact guard_pos (Nat.zero_le _)
def revF (i : Nat) : Rho → SR := fun r => liftS r (ownL i r) fun ds => .nx (r.set i (some (.lst ds.reverse)))
theorem ds_rev (i : Nat) {x : Str} {pn : Pos} (k : kd G i = .o) (ho : PE X (.Name x pn) (tVar i))
    (hw : swapsWith (.Call (.Attribute (.Name x pn) "reverse" apos) [] [] cpos) none pos.line X.env = pure false := by rfl)
    (hbase : attributeBase (.Name x pn) "reverse" X.env (eval (.Name x pn) X.env) = eval (.Name x pn) X.env := by rfl) (hline : (apos.endLine == cpos.line) = true := by rfl) :
    PS X (.Expr (.Call (.Attribute (.Name x pn) "reverse" apos) [] [] cpos) pos) (sD c L G G (revF i)) := by
  refine ps_imp (ps_expr (pe_bm0 PySem.F.plainAttrs_list PySem.F.slot_list_reverse PySem.F.type_list_reverse mt_reverse ho hbase hline) hw) fun E σ H h => ?_
  obtain ⟨S0, H0, S, r, ok, p⟩ := h
  obtain ⟨q, xs, ds, hd, z1, z2, z3, p1⟩ := of_ownL ok k p
  exact ⟨.ref q, z1, .inl ⟨rfl, xs, .inl (.inl z2)⟩, q, xs, rfl, rfl, z2, p1 σ S _ (ok.mut k hd z1 (.lst z3.reverse))⟩
end
section
variable {r : Rho} {i g g1 g2 jb : Nat} {n f0 fl1 fl2 : Str} {f fk : Rho → Res D} {Fl F : Rho → SR} {N B C : Rho → Prop} {R : D → Prop} {E : Rho → Str → List Str → List D → Prop}
theorem ss_rev {ds : List D} (h1 : r[i]? = some (some (.lst ds))) (h : N (r.set i (some (.lst ds.reverse)))) : Ss (revF i r) N R B C E := by
  refine ss_lift (Rs.of (a := ds) ?_ h)
  unfold ownL; rw [h1]
theorem jIs_of (h : r[i]? = some (some (.obj n [] []))) : jIs i n r = .ok () := by
  unfold jIs
  rw [h]
  exact if_pos rfl
theorem rs_jf {d : D} {P : D → Prop} {EE : Str → List Str → List D → Prop} (h0 : r[i]? = some (some (.obj n [] []))) (h1 : r[g]? = some (some d)) (h : P d) : Rs (dJf i g n r) P EE := by
  unfold dJf
  rw [jIs_of h0]
  show Rs (dVar g r) P EE
  exact Rs.of (a := d) (by unfold dVar; rw [h1]) h
theorem ss_appJ (h0 : r[i]? = some (some (.obj n [] []))) (h : Ss (appF g f r) N R B C E) : Ss (appJF i g n f r) N R B C E := by
  unfold appJF
  rw [jIs_of h0]
  exact h
theorem ss_putJ (h0 : r[i]? = some (some (.obj n [] []))) (h : Ss (Dx.putF g fk f r) N R B C E) : Ss (putJF i g n fk f r) N R B C E := by
  unfold putJF
  rw [jIs_of h0]
  exact h
theorem ss_gram {d0 : D} {ds : List D} {ks : List Key} {vs : List D} {r' : Rho} (h0 : r[i]? = some (some (.obj n [f0] [d0]))) (l1 : g1 < r.length) (l2 : g2 < r.length) (hF : Fl (((r.set i (some (.obj n [] []))).set g1 (some (.lst []))).set g2 (some (.dk [] []))) = .nx r')
    (q0 : ∃ m, r'[i]? = some (some (.obj m [] []))) (q1 : r'[g1]? = some (some (.lst ds))) (q2 : r'[g2]? = some (some (.dk ks vs))) (h : Ss (F ((((r'.set i (some (.obj n [f0, fl1, fl2] [d0, .lst ds, .dk ks vs]))).set g1 none).set g2 none).set jb none)) N R B C E) : Ss (gramS i g1 g2 jb n f0 fl1 fl2 Fl F r) N R B C E := by
  unfold gramS
  rw [h0]
  dsimp only
  rw [if_pos ⟨rfl, rfl, l1, l2⟩, hF]
  dsimp only
  obtain ⟨m, q0⟩ := q0
  rw [q0, q1, q2]
  exact h
end
end Dx
end S_DxCL
section S_DxCM
set_option Elab.async false
set_option linter.all false
set_option maxRecDepth 100000
set_option maxHeartbeats 2000000
namespace Dx
open PySem PySem.Spec L2 ItX PyProof.Rows
section
variable {pr : Program} {wd : World} {Ar : Around} {Er : Value → Shared → Prop} {sh : Shared}
theorem lst_end_hot {tw lw z1 : Addr} {ii : Nat} {cont} {P : Option Value → Shared → Prop} (hot : HotX.HotAt Ar z1 sh.heap) (ht : sh.heap.IsListIter tw lw ii) (hw : sh.heap.IsList lw cont) (hn : cont[ii]? = none)
    (hP : ∀ h', (∀ b o, b ≠ tw → sh.heap.get? b = some o → h'.get? b = some o) → P none { sh with heap := h' }) : wpAny (model pr wd) Ar (pyNext (.ref tw)) P Er sh := by
  obtain ⟨ob, g1, g2, g3⟩ := id ht; obtain ⟨oc, k1, _, k2, k3⟩ := hw; obtain ⟨hh, o1, vs1, e1, d1, c1⟩ := hot
  have ne : z1 ≠ tw := fun z => by subst z; rw [g1] at e1; cases e1; rw [g3] at d1; cases d1; simp at c1
  unfold pyNext
  refine wpAny_bind (wpAny_attempt (wpAny_callSpecial?_slot (name := Str.ofString "__next__") ht.typeIs slot_listiter_next (wpAny_call_entry slot_listiter_next ht.typeIs entry_listiter_next ?_ (args_listiter_next _))))
  show wpAny _ _ (field (.ref tw) 0 >>= _) _ _ sh; refine wpAny_bind (wpAny_field g1 g3 (x := .ref lw) rfl ?_)
  show wpAny _ _ (if (Value.ref lw == Value.none) = true then _ else _) _ _ sh; rw [if_neg (show ¬ ((Value.ref lw == Value.none) = true) from Bool.false_ne_true)]
  show wpAny _ _ (field (.ref tw) 1 >>= _) _ _ sh; refine wpAny_bind (wpAny_field g1 g3 (x := .int ii 0) rfl ?_)
  show wpAny _ _ (seqItems? (.ref lw) >>= _) _ _ sh; refine wpAny_bind (wpAny_seqItems k1 k3 ?_); simp only [Int.toNat_natCast, hn]
  refine wpAny_bind (wpAny_rule (wpAny_bind (wpAny_setField g1 g3 (by simp) ?_)))
  show wpAny _ _ (newExc (.type "StopIteration") [] >>= _) _ _ _; refine wpAny_bind ?_; simp only [newExc, newTuple]
  refine wpAny_bind (wpAny_newObj_type ?_ (by size_fits)); refine wpAny_bind (m := firstArgMember _ _) (wpAny_of_eq (a := Value.none) (by first | rfl | (simp only [firstArgMember]; rfl)) ?_); refine wpAny_newObj_type ?_ (by size_fits)
  have e2 : (sh.heap.update tw (Obj.mapFields (·.setIfInBounds 0 Value.none))).get? z1 = some o1 := by rw [Heap.get?_update_other _ _ (Ne.symm ne)]; exact e1
  refine HotX.raiseNew_hot ⟨hh, o1, vs1, Heap.get?_push_of_some _ (Heap.get?_push_of_some _ e2), d1, c1⟩ (Nat.ne_of_lt (Heap.lt_size (Heap.get?_push_of_some _ e2))) (Heap.get?_push_size _ rfl) rfl (by first | (simp; done) | (simp; omega) | (simp only [Array.size_append]; simp; omega)) ?_
  refine wpAny_bind (wpAny_isInstance (T := "StopIteration") (b := true) ⟨_, Heap.get?_update_self _ (Heap.get?_push_size _ rfl) rfl, rfl⟩ isSubtype_stop ?_)
  refine wpAny_pure (hP _ fun b o nb e => ?_)
  have e3 : (sh.heap.update tw (Obj.mapFields (·.setIfInBounds 0 Value.none))).get? b = some o := by rw [Heap.get?_update_other _ _ (Ne.symm nb)]; exact e
  rw [Heap.get?_update_other _ _ (Nat.ne_of_gt (Heap.lt_size (Heap.get?_push_of_some _ e3)))]
  exact Heap.get?_push_of_some _ (Heap.get?_push_of_some _ e3)
end
theorem turn_lstH {P : Program} {w : World} {K : PySem.W.Frag} {tg : Expr} (lw tw : Addr) : L2H.TurnH P w K tg (Itl K lw) [tw] tw (fun i h => h.IsListIter tw lw i) where
  mem := (turn_list (P := P) (w := w) (K := K) (tg := tg) lw tw).mem
  obj := (turn_list (P := P) (w := w) (K := K) (tg := tg) lw tw).obj
  keep := (turn_list (P := P) (w := w) (K := K) (tg := tg) lw tw).keep
  self := (turn_list (P := P) (w := w) (K := K) (tg := tg) lw tw).self
  item := fun Z q1 q2 q3 _ n pins s σ H E I hf st ⟨us, v, hus, hv⟩ => by
    subst q1 q2 q3
    obtain ⟨cont, rv, p, _⟩ := I.list hus; obtain ⟨u, hu, ru⟩ := rv.get hv; obtain ⟨f0, f1, f2, f3, f4, f5⟩ := hf tw (List.mem_singleton.mpr rfl)
    refine wpAny_pyNext_list_item st p.isList (x := u) (by simpa using hu) fun hp st2 sb => ?_
    have J : Inv Z pins σ H { s with heap := hp } := I.turned (t' := s.toks) (fun b o hb e => (sb.2 b hb).trans e) f0 f1 f3 f4 f5
    obtain ⟨ob, e1, e2, e3⟩ := id st2
    exact ⟨u, rfl, go_of (s := { s with heap := hp }) e1 e2 e3 (by decide) ⟨v, H, J, ru, ⟨rfl, fun zs hz => by rw [I.list_inj hz hus]; exact hv⟩, st2, fun b hb => (hf b hb).1⟩⟩
  done := fun Z q1 q2 q3 hc n pins s σ H E I hf st ⟨us, hus, hl⟩ => by
    subst q1 q2 q3
    obtain ⟨cont, rv, p, _⟩ := I.list hus; obtain ⟨f0, f1, f2, f3, f4, f5⟩ := hf tw (List.mem_singleton.mpr rfl); obtain ⟨z1, hot⟩ := hc.at I
    have hlen := rv.length
    exact lst_end_hot hot st p.isList (by simp; omega) fun hp eb => ⟨rfl, I.turned (t' := s.toks) (fun b o hb e => eb b o hb e) f0 f1 f3 f4 f5⟩
theorem pi_lstH {X : Cx} {tg ex : Expr} {tl : TE} (he : PE X ex tl) : L2H.PIH X tg ex (iList X.K tl) := ⟨fun pins s σ H R I h => thn (he.run pins s σ H _ I h) fun v sa ⟨x, Ha, J, r1, ad, ea, ⟨us, hus⟩, q⟩ => by
  subst ea; cases r1
  obtain ⟨cont, rv, p, _⟩ := J.list hus
  refine wpAny_pyIter_list p.isList ⟨sa.heap.objs.size, [sa.heap.objs.size], _, _, Ha, rfl, J.kept (t' := sa.toks) fun b o e => Heap.get?_push_of_some _ e, turn_lstH ad _, ⟨_, Heap.get?_push_size _ rfl, rfl, rfl⟩, fun b hb => ?_, q⟩
  rw [show b = sa.heap.objs.size from by simpa using hb]; exact J.fpOk (Nat.le_refl _) (J.hok.fresh (Nat.le_refl _))⟩
section
variable {pr : Program} {wd : World} {Ar : Around} {Er : Value → Shared → Prop} {sh : Shared}
theorem tup_end_hot {tw lw z1 : Addr} {ii : Nat} {cont} {P : Option Value → Shared → Prop} (hot : HotX.HotAt Ar z1 sh.heap) (ht : sh.heap.IsTupleIter tw lw ii) (hw : sh.heap.IsTuple lw cont) (hn : cont[ii]? = none)
    (hP : ∀ h', (∀ b o, b ≠ tw → sh.heap.get? b = some o → h'.get? b = some o) → P none { sh with heap := h' }) : wpAny (model pr wd) Ar (pyNext (.ref tw)) P Er sh := by
  obtain ⟨ob, g1, g2, g3⟩ := id ht; obtain ⟨oc, k1, _, k2, k3⟩ := hw; obtain ⟨hh, o1, vs1, e1, d1, c1⟩ := hot
  have ne : z1 ≠ tw := fun z => by subst z; rw [g1] at e1; cases e1; rw [g3] at d1; cases d1; simp at c1
  unfold pyNext
  refine wpAny_bind (wpAny_attempt (wpAny_callSpecial?_slot (name := Str.ofString "__next__") ht.typeIs F.slot_tuple_iterator_next (wpAny_call_entry F.slot_tuple_iterator_next ht.typeIs F.entry_tuple_iterator_next ?_ (F.args_tuple_iterator_next_1 _))))
  show wpAny _ _ (field (.ref tw) 0 >>= _) _ _ sh; refine wpAny_bind (wpAny_field g1 g3 (x := .ref lw) rfl ?_)
  show wpAny _ _ (if (Value.ref lw == Value.none) = true then _ else _) _ _ sh; rw [if_neg (show ¬ ((Value.ref lw == Value.none) = true) from Bool.false_ne_true)]
  show wpAny _ _ (field (.ref tw) 1 >>= _) _ _ sh; refine wpAny_bind (wpAny_field g1 g3 (x := .int ii 0) rfl ?_)
  show wpAny _ _ (seqItems? (.ref lw) >>= _) _ _ sh; refine wpAny_bind (wpAny_seqItems k1 k3 ?_); simp only [Int.toNat_natCast, hn]
  refine wpAny_bind (wpAny_rule (wpAny_bind (wpAny_setField g1 g3 (by simp) ?_)))
  show wpAny _ _ (newExc (.type "StopIteration") [] >>= _) _ _ _; refine wpAny_bind ?_; simp only [newExc, newTuple]
  refine wpAny_bind (wpAny_newObj_type ?_ (by size_fits)); refine wpAny_bind (m := firstArgMember _ _) (wpAny_of_eq (a := Value.none) (by first | rfl | (simp only [firstArgMember]; rfl)) ?_); refine wpAny_newObj_type ?_ (by size_fits)
  have e2 : (sh.heap.update tw (Obj.mapFields (·.setIfInBounds 0 Value.none))).get? z1 = some o1 := by rw [Heap.get?_update_other _ _ (Ne.symm ne)]; exact e1
  refine HotX.raiseNew_hot ⟨hh, o1, vs1, Heap.get?_push_of_some _ (Heap.get?_push_of_some _ e2), d1, c1⟩ (Nat.ne_of_lt (Heap.lt_size (Heap.get?_push_of_some _ e2))) (Heap.get?_push_size _ rfl) rfl (by first | (simp; done) | (simp; omega) | (simp only [Array.size_append]; simp; omega)) ?_
  refine wpAny_bind (wpAny_isInstance (T := "StopIteration") (b := true) ⟨_, Heap.get?_update_self _ (Heap.get?_push_size _ rfl) rfl, rfl⟩ isSubtype_stop ?_)
  refine wpAny_pure (hP _ fun b o nb e => ?_)
  have e3 : (sh.heap.update tw (Obj.mapFields (·.setIfInBounds 0 Value.none))).get? b = some o := by rw [Heap.get?_update_other _ _ (Ne.symm nb)]; exact e
  rw [Heap.get?_update_other _ _ (Nat.ne_of_gt (Heap.lt_size (Heap.get?_push_of_some _ e3)))]
  exact Heap.get?_push_of_some _ (Heap.get?_push_of_some _ e3)
end
theorem turn_tupH {P : Program} {w : World} {K : PySem.W.Frag} {tg : Expr} (lw tw : Addr) : L2H.TurnH P w K tg (Itt K lw) [tw] tw (fun i h => h.IsTupleIter tw lw i) where
  mem := (turn_tuple (P := P) (w := w) (K := K) (tg := tg) lw tw).mem
  obj := (turn_tuple (P := P) (w := w) (K := K) (tg := tg) lw tw).obj
  keep := (turn_tuple (P := P) (w := w) (K := K) (tg := tg) lw tw).keep
  self := (turn_tuple (P := P) (w := w) (K := K) (tg := tg) lw tw).self
  item := fun Z q1 q2 q3 _ n pins s σ H E I hf st ⟨us, v, hus, hv⟩ => by
    subst q1 q2 q3
    obtain ⟨cont, rv, p, _⟩ := I.tuple hus; obtain ⟨u, hu, ru⟩ := rv.get hv; obtain ⟨f0, f1, f2, f3, f4, f5⟩ := hf tw (List.mem_singleton.mpr rfl)
    refine wpAny_pyNext_tuple_item st (show s.heap.IsTuple lw cont.toArray from p) (x := u) (by simpa using hu) fun hp st2 sb => ?_
    have J : Inv Z pins σ H { s with heap := hp } := I.turned (t' := s.toks) (fun b o hb e => (sb.2 b hb).trans e) f0 f1 f3 f4 f5
    obtain ⟨ob, e1, e2, e3⟩ := id st2
    exact ⟨u, rfl, go_of (s := { s with heap := hp }) e1 e2 e3 (by decide) ⟨v, H, J, ru, ⟨rfl, fun zs hz => by rw [I.tuple_inj hz hus]; exact hv⟩, st2, fun b hb => (hf b hb).1⟩⟩
  done := fun Z q1 q2 q3 hc n pins s σ H E I hf st ⟨us, hus, hl⟩ => by
    subst q1 q2 q3
    obtain ⟨cont, rv, p, _⟩ := I.tuple hus; obtain ⟨f0, f1, f2, f3, f4, f5⟩ := hf tw (List.mem_singleton.mpr rfl); obtain ⟨z1, hot⟩ := hc.at I
    have hlen := rv.length
    exact tup_end_hot hot st (show s.heap.IsTuple lw cont.toArray from p) (by simp; omega) fun hp eb => ⟨rfl, I.turned (t' := s.toks) (fun b o hb e => eb b o hb e) f0 f1 f3 f4 f5⟩
theorem pi_tupH {X : Cx} {tg ex : Expr} {tl : TE} (he : PE X ex tl) : L2H.PIH X tg ex (iTup X.K tl) := ⟨fun pins s σ H R I h => thn (he.run pins s σ H _ I h) fun v sa ⟨x, Ha, J, r1, ad, ea, ⟨us, hus⟩, q⟩ => by
  subst ea; cases r1
  obtain ⟨cont, rv, p, _⟩ := J.tuple hus
  refine wpAny_pyIter_tuple (show sa.heap.IsTuple ad cont.toArray from p) ⟨sa.heap.objs.size, [sa.heap.objs.size], _, _, Ha, rfl, J.kept (t' := sa.toks) fun b o e => Heap.get?_push_of_some _ e, turn_tupH ad _, ⟨_, Heap.get?_push_size _ rfl, rfl, rfl⟩, fun b hb => ?_, q⟩
  rw [show b = sa.heap.objs.size from by simpa using hb]; exact J.fpOk (Nat.le_refl _) (J.hok.fresh (Nat.le_refl _))⟩
section
variable {X : Cx} {c : Cf} {L G : List Ow} {tg e : Expr} {f : Rho → Res D}
theorem di_listH (he : PE X e (tV c G f)) (hK : c.K = X.K := by rfl) : L2H.PIH X tg e (iD c G (dIt itemsL f)) := piH_imp (pi_lstH he) fun σ H R ⟨S0, H0, S, r, ok, p⟩ => rd_seq ok p fun d v S1 H1 w1 o1 m1 p1 => by
  rw [← hK]
  cases d with
  | lst ds => cases m1 with | @lst q xs _ h rr => exact ⟨q, rfl, ⟨xs, .inl (.inl (o1.ex _ _ h))⟩, p1.go o1.ex _ (gives_list (.inl (.inl h)) rr)⟩
  | fz ds => cases m1 with | @fz q xs _ h rr => exact ⟨q, rfl, ⟨xs, o1.ex.l h⟩, p1.go o1.ex _ (gives_list h rr)⟩
  | _ => exact p1.elim
theorem di_tupH (he : PE X e (tV c G f)) (hK : c.K = X.K := by rfl) : L2H.PIH X tg e (iD c G (dIt itemsT f)) := piH_imp (pi_tupH he) fun σ H R ⟨S0, H0, S, r, ok, p⟩ => rd_seq ok p fun d v S1 H1 w1 o1 m1 p1 => by
  rw [← hK]
  cases d with
  | tup ds => cases m1 with | @tup q xs _ h rr => exact ⟨q, rfl, ⟨xs, .inl (.inl (o1.ex _ _ h))⟩, p1.go o1.ex _ (gives_tup (.inl (.inl h)) rr)⟩
  | _ => exact p1.elim
end
section
variable {X : Cx} {c : Cf} {G : List Ow} {a C dd : Addr} {oe : Obj} {pos : Pos}
/-- e.f, in any context that knows the exception -/
theorem pe_xfP {cls : Value} {d : Option Addr} {e : Expr} {te : TE} {n : Str} (T : XfC X.K C) (hno : PySem.W.findIn X.K (.ref C) n = some none) (hp : (a, oe) ∈ X.pn) (hz : L2.Zc cls d oe) (hf : ∃ vs, oe.data = .fields vs) (he : PE X e te) (hb : attributeBase e n X.env (eval e X.env) = eval e X.env := by rfl) : PE X (.Attribute e n pos) (tXf a cls d C n te) :=
  ⟨fun pins s σ H Q I h => attr_of hb (thn (he.run pins s σ H _ I h) fun u s1 ⟨x, H1, I1, rx, ex, ec, dx, fs, v, ed, ea, l, q⟩ => by
    subst ex ec ed
    obtain rfl : u = Value.ref a := rx
    have ha := (I1.pin (a, oe) (List.mem_append_left _ hp)).1
    obtain ⟨vs, hd⟩ := hf; obtain ⟨mA, hns, hr⟩ : ObjOk X.prog X.w H1 s1.heap dx (.xd fs) := I1.hok dx _ ea
    obtain ⟨od, ho, hl⟩ := lookIn_ns hns; obtain ⟨y, hu, ru⟩ := RelO.some_of (v := v) (o := mA n) (by rw [← l]; exact hr n)
    have J : PySem.W.InstAt s1.heap a oe C (some od) := ⟨ha, hz.1, by unfold PySem.W.notCls; rw [hd] <;> rfl, by rw [hz.2]; exact ho⟩
    exact HandSPX.exc_get I1.kIn J T.ga T.gg T.exC (PySem.W.findObj_own T.hdC hno rfl (by rw [hl, hu])) (handed_of ru) ⟨v, H1, I1.tok _, ru, q⟩)⟩
theorem de_xfP {i : Nat} {nm f : Str} {pn' : Pos} (T : XfC X.K C) (hno : PySem.W.findIn X.K (.ref C) f = some none) (k : kd G i = .x a C dd) (hp : (a, oe) ∈ X.pn) (hz : L2N.Zn (.ref C) (some dd) oe) (hf : ∃ vs, oe.data = .fields vs) (he : PE X (.Name nm pn') (tVar i))
    (hb : attributeBase (.Name nm pn') f X.env (eval (.Name nm pn') X.env) = eval (.Name nm pn') X.env := by rfl) : PE X (.Attribute (.Name nm pn') f pos) (tV c G (dXf i f)) := pe_imp (pe_xfP T hno hp hz.zc hf he hb) fun σ H Q ⟨S0, H0, S, r, ok, p⟩ => by
  unfold dXf at p
  split at p
  · rename_i n ns vs hr
    obtain ⟨v, h1, h2⟩ := ok.slot i _ hr
    rw [k] at h2
    obtain ⟨rfl, n', ns', ds', fs, z1, z2, z3, z4, z5⟩ := h2
    cases z1
    split at p
    · rename_i d hd
      rw [z4] at hd
      obtain ⟨u, q1, q2⟩ := look_rp z5 hd
      exact ⟨.ref a, h1, rfl, rfl, dd, fs, u, rfl, ok.ex _ _ z3, q1, p.here ok.ex q2⟩
    · exact p.elim
  · exact p.elim
theorem call_isXP (T : ExcC X.K C) (hp : (a, oe) ∈ X.pn) (hz : L2N.Zn (.ref C) (some dd) oe) (hf : ∃ vs, oe.data = .fields vs) : CallR X (.builtin "isinstance") (rIsX X.K C a dd) := fun pins s σ H xs us Q I r ⟨cc, cv, b, fs, e, hcv, hdd, hk, q⟩ => by
  subst e
  match us, r with
  | [u1, u2], .cons rx (.cons rt .nil) =>
    cases rx
    have ec := hcv _ rt
    subst ec
    obtain ⟨vs, hv⟩ := hf; obtain ⟨mA, hns, _⟩ : ObjOk X.prog X.w H s.heap dd (.xd fs) := I.hok dd _ hdd
    obtain ⟨od, ho, _⟩ := lookIn_ns hns
    have J : PySem.W.InstAt s.heap a oe C (some od) := ⟨(I.pin (a, oe) (List.mem_append_left _ hp)).1, hz.1, by unfold PySem.W.notCls; rw [hv], by rw [hz.2.1]; exact ho⟩
    have hcl : (PySem.W.clsIn X.K C).isSome = true := by
      have h1 := T.hd
      unfold PySem.W.hasDictIn at h1
      cases hc : PySem.W.clsIn X.K C with
      | none => rw [hc] at h1; cases h1
      | some _ => rfl
    exact PySem.W.kia_one (PySem.W.kitx_exc hcl T.hg T.hk T.hs T.ha T.hn T.ht T.hm) I.kIn J hk (fun z => nomatch z) fun tk => ⟨.bl b, H, I.kept (t' := tk) fun _ _ z => z, rfl, q⟩
theorem de_isXP {i : Nat} {nm xc : Str} {p pn' pc : Pos} {isM : Str → Option Bool} {v : V} {cv : Value} (k : kd G i = .x a C dd) (T : ExcC X.K C) (hp : (a, oe) ∈ X.pn) (hz : L2N.Zn (.ref C) (some dd) oe) (hf : ∃ vs, oe.data = .fields vs)
    (hcv : ∀ u, RelV v u → u = cv) (hM : ∀ n b, c.cm n = some C → isM n = some b → PySem.W.kitOne X.K (.ref C) cv = some b)
    (hm : X.mg "isinstance" = none) (hg : Gl X "isinstance") (hv : PE X (.Name nm pn') (tVar i)) (hT : PE X (.Name xc pc) (tC v))
    (hs1 : starEach [.Name nm pn', .Name xc pc] X.env = (false, eval (.Name nm pn') X.env) :: starEach [.Name xc pc] X.env := by rfl) (hs2 : starEach [.Name xc pc] X.env = (false, eval (.Name xc pc) X.env) :: starEach [] X.env := by rfl) (hpl : (backTo pos (starEach [.Name xc pc] X.env)).any (·.1) = false := by rfl) :
    PE X (.Call (.Name "isinstance" p) [.Name nm pn', .Name xc pc] [] pos) (tV c G (dIsX isM i)) := by
  refine pe_imp (pe_callB (call_isXP T hp hz hf) hg hm (by decide +kernel) (pa_cons hv (pa_cons hT pa_nil hs2) hs1) (he := hs1) (hpl := hpl)) fun σ H Q ⟨S0, H0, S, r, ok, p⟩ => ?_
  unfold dIsX at p
  split at p
  · rename_i n ns vs hr
    obtain ⟨v', h1, h2⟩ := ok.slot i _ hr
    rw [k] at h2
    obtain ⟨rfl, n', ns', ds', fs, z1, z2, z3, z4, z5⟩ := h2
    cases z1
    split at p
    · rename_i b hb
      exact ⟨.ref a, h1, v, cv, b, fs, rfl, hcv, ok.ex _ _ z3, hM n b z2 hb, p.here ok.ex (.bl _)⟩
    · exact p.elim
  · exact p.elim
end
/-- what is asked of the call: the exception's data, and what holds behind it -/
def spX (K : PySem.W.Frag) (cm : CM) (F : List D → Res D) (C dd : Addr) (H : Hp) (Q : VK) (E : XK) : Prop :=
  ∃ S n ns ds fs, Ex S H ∧ cm n = some C ∧ S dd = some (.xd fs) ∧ ns = fs.map (·.1) ∧ RpA K cm S (fs.map (·.2)) ds ∧ PostG (cfE K cm false E) [] S H (F [.obj n ns ds]) fun a S' H' => ∀ b, mV (cfE K cm false E) H S' H' b a → Q b H'
structure FnX (P : Program) (w : World) (K : PySem.W.Frag) (mg : Str → Option Value) (base : Heap) (k : Nat) (f : Addr) (fd : FuncData) (ps : List Str) (isM : Str → Option Bool) (cm : CM) (F : List D → Res D) : Prop where
  len : ps.length = 1
  run : ∀ (A : Around) (outer : List Env) (s : Shared) (H : Hp) (a C dd : Addr) (oe : Obj) (args : Args) (Q : VK) (E : XK), L2H.RoomH k A → L2H.PinOk outer H s (a, oe) → (∃ n, cm n = some C ∧ isM n = some true) → L2N.Zn (.ref C) (some dd) oe → (∃ vs, oe.data = .fields vs) → Env0 P w K mg base A outer s H →
    BindsTo s fd args (ps.zip [Value.ref a]) → spX K cm F C dd H Q E → codeAny (model P w) A (.call (.ref f) args) (CR (L2N.CX P w) outer P w H s Q E) s
section
variable {P : Program} {w : World} {K : PySem.W.Frag} {mg : Str → Option Value} {base : Heap} {cm : CM}
theorem dokX {x qual : Str} {st : Stmt} {f : Addr} {fd : FuncData} {N ps : List Str} {k : Nat} {isM : Str → Option Bool} {G' : List Ow} {Fb : Rho → SR} (F : Fun K x qual st f fd) (S : FnScope N ps (defScope st)) (hp : ps.length = 1) (hn : 1 ≤ N.length)
    (hb : ∀ (cdv : Value) (A : Around) (outer : List Env) (s : Shared) (H : Hp) (E : XK) (a C dd : Addr) (oe : Obj), L2H.RoomH k (A.deeper (PyProof.Rows.envOfC qual (defScope st) s.heap.objs.size f cdv)) → (∃ n, cm n = some C ∧ isM n = some true) → L2N.Zn (.ref C) (some dd) oe → (∃ vs, oe.data = .fields vs) →
      PSs (L2H.cxH (L2N.CX P w) P w K mg base N qual (defScope st) f cdv A outer s H E (a, oe)) (defBody st) (sD (cfE K cm false E) [] ((G0 [] N.length).set 0 (.x a C dd)) G' Fb)) :
    FnX P w K mg base (k + 1) f fd ps isM cm (runF N.length false Fb) := by
  obtain ⟨oc, od, kV, doc, pm, an, cdv, ct, osl, rfl, lk, hcd⟩ := F.ex
  refine ⟨hp, fun A outer s H a C dd oe args Q E hr hpin hin hz hf e0 hb0 ⟨Sp, n, ns, ds, fs, ex, hc, hdd, hns, hra, q⟩ => ?_⟩
  have KX : K.In s.heap := e0.mod.kin.keeps fun b o e => (e0.bs b o e).1
  refine codeAny_call_function hr.depth (KX _ _ lk) rfl S.co S.gen rfl (PySem.W.codeRec_of KX hcd) (hb0 _ _ _ _ (wpAny_newFunctionEnv_cells S.kind (fun y hy => ?_) fun env he s1 z => ?_))
  · rcases S.par y.1 (List.of_mem_zip hy).1 with q | q
    · exact .inl q
    · exact .inr ⟨q, PySem.W.cellsFrom_some _ _ _ (.inl q)⟩
  subst he
  have lim : s.heap.NoLimit := e0.mod.nolimit.keeps fun b o e => (e0.bs b o e).1
  refine ⟨lim.keeps z.toInCall.keep, codeAny_func ?_⟩
  have I := L2H.inv_startH (CX := L2N.CX P w) (E := E) (cd := cdv) (vs := [V.ref a]) S hpin e0 (by rw [hp]; rfl) (.cons rfl .nil) z
  have e1 := (env_start (ms := []) (c := cfE K cm false E) (N := N) (vs := []) (ds := []) ex trivial (Nat.zero_le _)).setX (c' := cfE K cm false E) (a := a) rfl rfl 0 (by unfold G0; simp; omega) hc hdd hns hra
  have es : (L2.start N []).set 0 (some (.ref a)) = L2.start N [V.ref a] := by
    unfold L2.start
    obtain ⟨m, hm⟩ : ∃ m, N.length = m + 1 := ⟨N.length - 1, by omega⟩
    rw [hm]
    rfl
  have er : (startR N.length []).set 0 (some (.obj n ns ds)) = startR N.length [.obj n ns ds] := by
    unfold startR
    obtain ⟨m, hm⟩ : ∃ m, N.length = m + 1 := ⟨N.length - 1, by omega⟩
    rw [hm]
    rfl
  rw [es, er] at e1
  refine wpAny_mono ((hb cdv A outer s H E a C dd oe (hr.deeper _) hin hz hf).run [] s1 (L2.start N [V.ref a]) H { nx := fun _ H' => Q .non H', rt := Q } I ⟨Sp, H, Sp, _, e1, ?_⟩) (fun fl s' hs => ?_) fun _ _ hs => hs
  · unfold runF at q
    cases hF : Fb (startR N.length [.obj n ns ds]) with
    | rt d => rw [hF] at q; exact fun v S' H' fw hv => q S' H' fw v hv
    | nx r => rw [hF] at q; exact fun σ' S' H' ok => q S' H' ok.fwd _ Rp.non
    | er r n ns vs => rw [hF] at q; exact fun C dd σ' S' H' fs h1 fw _ h2 h3 h4 => q C dd S' H' fs h1 fw h2 h3 h4
    | bk r => rw [hF] at q; exact q.elim
    | ct r => rw [hF] at q; exact q.elim
    | bad => rw [hF] at q; exact q.elim
  · cases fl with
    | ret u => exact let ⟨v, σ', H', J, rv, q⟩ := hs; ⟨v, H', J.os, J.bare, J.base, J.hok, rv, q⟩
    | next => exact let ⟨σ', H', J, q⟩ := hs; ⟨V.non, H', J.os, J.bare, J.base, J.hok, rfl, q⟩
    | brk => exact let ⟨_, _, _, q⟩ := hs; q.elim
    | cont => exact let ⟨_, _, _, q⟩ := hs; q.elim
end
section
variable {X : Cx} {c : Cf} {G : List Ow} {a C dd fa : Addr} {oe : Obj} {pos p pn' : Pos} {i k : Nat} {x nm : Str} {fd : FuncData} {ps : List Str} {isM : Str → Option Bool} {F : List D → Res D}
/-- f(e), e the handled exception -/
theorem de_callX (F1 : FnX X.prog X.w X.K X.mg X.base k fa fd ps isM c.cm F) (tk : L2N.Takes X c.W) (hr : L2H.RoomH k X.A) (kx : kd G i = .x a C dd) (hp : (a, oe) ∈ X.pn) (hin : ∃ n, c.cm n = some C ∧ isM n = some true) (hz : L2N.Zn (.ref C) (some dd) oe) (hf : ∃ vs, oe.data = .fields vs)
    (hg : Gl X x) (hm : X.mg x = some (.ref fa)) (hk : PySem.W.keepIn X.K (.ref fa) = true) (hb : L2.Binds X.K fd ps []) (he : PE X (.Name nm pn') (tVar i)) (hK : c.K = X.K := by rfl) (hdb : (x == ("__debug__" : Str)) = false := by decide)
    (hs : starEach [.Name nm pn'] X.env = (false, eval (.Name nm pn') X.env) :: starEach [] X.env := by rfl) (hpl : (backTo pos (starEach [] X.env)).any (·.1) = false := by rfl) :
    PE X (.Call (.Name x p) [.Name nm pn'] [] pos) (tV c G (dCall F (dCons (dVar i) dNil))) := by
  refine ⟨fun pins s σ H Q I h => ?_⟩
  obtain ⟨S0, H0, S, r, ok, q⟩ := h
  have hd : ∃ d, r[i]? = some (some d) ∧ PostG c σ S H (F [d]) fun b S' H' => ∀ v, mV c H S' H' v b → Q v H' := by
    have q2 : PostG c σ S H (((dVar i r).bind fun d => Res.ok [d]).bind F) fun b S' H' => ∀ v, mV c H S' H' v b → Q v H' := q
    unfold dVar at q2
    cases e : r[i]? with
    | none => rw [e] at q2; exact q2.elim
    | some o =>
      cases o with
      | none => rw [e] at q2; exact q2.elim
      | some d => rw [e] at q2; exact ⟨d, rfl, q2⟩
  obtain ⟨d, e1, q2⟩ := hd
  obtain ⟨v, h1, h2⟩ := ok.slot i d e1
  rw [kx] at h2
  obtain ⟨rfl, n, ns, ds, fs, rfl, z2, z3, z4, z5⟩ := h2
  refine wpAny_Call_Name_kw (ld_glob I hg hm ?_ hdb)
  have ha := pa_cons he pa_nil hs
  refine PySem.W.callWith_K (h₀ := X.base) I.ok.mod.kin hk (thn (ha.run pos pins s σ H (fun vs H1 => vs = [V.ref a] ∧ H1 = H) I ⟨.ref a, h1, rfl, rfl⟩) fun us s1 ⟨vs, H1, I1, rv, ev, eH⟩ => ⟨I1.kIn, ?_⟩) hs hpl
  subst ev eH
  cases rv with
  | cons ru rr =>
    cases rr
    cases ru
    have b := hb s1 [Value.ref a] I1.kIn (by rw [F1.len]; rfl)
    rw [List.append_nil] at b
    have P1 := I1.pin (a, oe) (List.mem_append_left _ hp)
    refine wpAny_call (codeAny_mono (F1.run X.A X.stack s1 H1 a C dd oe ⟨[.ref a], []⟩ Q (fun cls d H => c.W cls d σ H) hr ⟨P1.1, P1.2.1, fun hm => (List.mem_cons.mp (I1.stkSub a hm)).elim P1.2.2.1 P1.2.2.2.1, P1.2.2.2.2⟩ hin hz hf I1.env0 b ⟨S, n, ns, ds, fs, ok.ex, z2, z3, z4, by rw [← hK]; exact z5, ?_⟩) fun r s' hq => ?_)
    · rw [← hK]
      cases hF : F [.obj n ns ds] with
      | ok d => rw [hF] at q2; exact q2
      | err n ns vs => rw [hF] at q2; exact q2
      | bad => rw [hF] at q2; exact q2
    · cases r with
      | error e => exact L2N.passAt tk σ pins H1 s1 e s' I1 hq
      | ok fl =>
        cases fl with
        | ret u => exact I1.after hq
        | next => exact False.elim hq
        | brk => exact False.elim hq
        | cont => exact False.elim hq
end
end Dx
end S_DxCM
section S_DxCN
set_option Elab.async false
set_option linter.all false
set_option maxRecDepth 100000
set_option maxHeartbeats 2000000
namespace Dx
open PySem PySem.Spec L2 PyProof.Rows
section
variable {X : Cx} {k : Nat} {fa C : Addr} {fd : FuncData} {ps : List Str} {sp : Sp} {pins : List (Addr × Obj)} {σ : L2.St} {H : Hp} {s : Shared} {Q : VK} {us : List Value} {vs : List V} {pos : Pos} {o i : Expr}
/-- a def runs below, in any frame -/
theorem run_xe {CX : CXT} {E : XK} {A : Around} (F1 : FnOk X.prog X.w X.K X.mg X.base CX k fa fd ps sp) (hr : Room k A) (e0 : Env0 X.prog X.w X.K X.mg X.base A X.stack s H) (hb : L2.Binds X.K fd ps []) (hx : PassesAt CX X σ E) (I : Inv X pins σ H s) (r : Vals vs us) (h : sp vs H Q E) :
    wpAny (model X.prog X.w) A (call (.ref fa) us) (EP X pins σ Q) X.xe s := by
  have b := hb s us I.kIn (by rw [List.append_nil, ← r.length]; exact F1.len _ _ _ _ h)
  rw [List.append_nil] at b
  refine wpAny_call (codeAny_mono (F1.run A X.stack s H ⟨us, []⟩ us vs Q E hr e0 b r h) fun y s' hq => ?_)
  cases y with
  | error e => exact hx pins H s e s' I hq
  | ok fl =>
    cases fl with
    | ret u => exact I.after hq
    | next => exact False.elim hq
    | brk => exact False.elim hq
    | cont => exact False.elim hq
def tGetO (C : Addr) (sp : Sp) (E : L2.St → XK) (ta tb : TE) : TE := fun σ H Q => ta σ H fun x H1 => tb σ H1 fun y H2 => ∃ a dx fs, x = .ref a ∧ H2 a = some (.ins C dx fs) ∧ sp [.ref a, y] H2 Q (E σ)
theorem pe_getO {CX : CXT} {E : L2.St → XK} {ta tb : TE} (hm : L2.Meth X.K C "__getitem__" fa) (hfi : PySem.W.fnIn X.K fa = true) (F1 : FnOk X.prog X.w X.K X.mg X.base CX k fa fd ps sp) (hr : Room (k + 1) X.A) (hb : L2.Binds X.K fd ps []) (hx : ∀ σ, PassesAt CX X σ (E σ)) (ho : PE X o ta) (hi : PE X i tb)
    (hsl : ∀ (x : Addr) (iv : Value), subscripted i true (.ref x) iv = runValue (.builtin "lifetime.subscript" ⟨[.ref x, iv], []⟩) := by intro _ _; with_unfolding_all rfl) : PE X (.Subscript o i pos) (tGetO C sp E ta tb) := by
  refine ⟨fun pins s σ H Q I h => Subscript_ (thn (ho.run pins s σ H _ I h) fun u s1 ⟨x, H1, I1, rx, q1⟩ => thn (hi.run pins s1 σ H1 _ I1 q1) fun iv s2 ⟨y, H2, I2, ry, q2⟩ => ?_)⟩
  obtain ⟨a, dx, fs, rfl, ha, q⟩ := q2
  cases rx
  obtain ⟨ox, od, J, _⟩ := ins_at I2 ha
  obtain ⟨m, hF⟩ := I2.fr
  exact PySem.W.sub_K hF I2.ok.mod.kin J hm.at_ hfi hm.fn (run_xe (us := [.ref a, iv]) (vs := [.ref a, y]) F1 hr.in1 I2.env0.in1 hb (hx σ) I2 (.cons rfl (.cons ry .nil)) q) (hsl _ _)
variable {c : Cf} {G : List Ow} {n : Str} {F : List D → Res D} {f1 f2 : Rho → Res D} {m2 : Bool}
/-- o[k] by data -/
def getO (n : Str) (F : List D → Res D) (d e : D) : Res D := if isCls n d = true then F [d, e] else .bad
theorem de_getO (hcn : c.cm n = some C) (hm : L2.Meth X.K C "__getitem__" fa) (hfi : PySem.W.fnIn X.K fa = true) (F1 : FnOk X.prog X.w X.K X.mg X.base (L2N.CX X.prog X.w) k fa fd ps (spD c.K c.cm [true, false] false F)) (tk : L2N.Takes X c.W) (hr : Room (k + 1) X.A) (hb : L2.Binds X.K fd ps []) (ho : PE X o (tR c G f1)) (hi : PE X i (tV c G f2))
    (hsl : ∀ (x : Addr) (iv : Value), subscripted i true (.ref x) iv = runValue (.builtin "lifetime.subscript" ⟨[.ref x, iv], []⟩) := by intro _ _; with_unfolding_all rfl) : PE X (.Subscript o i pos) (tV c G (dOp (getO n F) f1 f2)) :=
  pe_imp (pe_getO (E := fun σ cls d H => c.W cls d σ H) hm hfi F1 hr hb (fun σ => L2N.passAt tk σ) ho hi hsl) fun σ H Q ⟨S0, H0, S, r, ok, p⟩ => rd_seq ok p fun d v S1 H1 w1 o1 m1 p1 => rd_seq o1 p1 fun e u S2 H2 w2 o2 m2 p2 => by
    have m1 := RpB.mono m1 w2.s w2.h
    unfold getO at p2
    by_cases hc : isCls n d = true
    · rw [if_pos hc] at p2
      obtain ⟨a, dx, gs, rfl, h2⟩ := of_isCls o2.ex hcn hc m1
      exact ⟨a, dx, gs, rfl, h2, call_rd (ds := [d, e]) (fun _ _ _ h => h) o2.ex ⟨m1, m2, trivial⟩ (p2.anti (w1.h.trans w2.h))⟩
    · rw [if_neg hc] at p2
      exact p2.elim
theorem fnIn_of {K : PySem.W.Frag} {x qual : Str} {st : Stmt} {f : Addr} {fd : FuncData} (F : Fun K x qual st f fd) : PySem.W.fnIn K f = true := by
  obtain ⟨oc, od, kV, doc, pm, an, cdv, ct, osl, rfl, lk, hcd⟩ := F.ex
  unfold PySem.W.fnIn
  rw [lk]
/-- in the mathematics -/
theorem rs_getO {ns : List Str} {vs : List D} {e : D} {P : D → Prop} {E : Str → List Str → List D → Prop} (h : Rs (F [.obj n ns vs, e]) P E) : Rs (getO n F (.obj n ns vs) e) P E := by
  unfold getO isCls
  simp only [decide_true, if_true]
  exact h
end
end Dx
end S_DxCN
section S_P_data
set_option Elab.async false
set_option linter.all false
set_option maxRecDepth 100000
namespace Lk
open PySem L2 Dx
noncomputable section
def isM_LaidError : Str → Option Bool := fun n => if n = "Misfit" then some true else if n = "Taken" then some true else if n = "Unknown" then some true else none
def isM_Misfit : Str → Option Bool := fun n => if n = "Misfit" then some true else if n = "Taken" then some false else if n = "Unknown" then some false else none
def isM_Strange : Str → Option Bool := fun n => if n = "Misfit" then some false else if n = "Taken" then some false else if n = "Unknown" then some false else none
def isM_Taken : Str → Option Bool := fun n => if n = "Misfit" then some false else if n = "Taken" then some true else if n = "Unknown" then some false else none
def isM_Unknown : Str → Option Bool := fun n => if n = "Misfit" then some false else if n = "Taken" then some false else if n = "Unknown" then some true else none
def isM_ValueError : Str → Option Bool := fun n => if n = "Misfit" then some true else if n = "Taken" then some true else if n = "Unknown" then some true else none
def md_INNER_ROLES : List (Str × D) := [((Sg [114, 111, 111, 116]), .kt [.str "block", .str "head"]), ((Sg [98, 108, 111, 99, 107]), .kt [.str "span", .str "note", .str "figure", .str "ref"]), ((Sg [104, 101, 97, 100]), .kt [.str "span", .str "ref"]), ((Sg [115, 112, 97, 110]), .kt [.str "span", .str "ref"]), ((Sg [110, 111, 116, 101]), .kt [.str "span"]), ((Sg [102, 105, 103, 117, 114, 101]), .kt [.str "span"]), ((Sg [114, 101, 102]), .kt [])]
def Lp_Grammar_check_inner_1 : Rho → SR := (seqF (ifF (dT (dOp (inK true) (dVar 4) (dUn (fldD "Grammar" "entries") (dVar 0)))) (raiF "Unknown" ["kind"] false (dCons (dVar 4) dNil)) .nx) (ifF (dT (dOp (inKt true) (dOp ixD (dOp getZ (dUn (fldD "Grammar" "entries") (dVar 0)) (dVar 4)) (dC (.int 0))) (dUn (mdGet md_INNER_ROLES) (dVar 2)))) (raiF "Misfit" ["kind"] false (dCons (dVar 4) dNil)) .nx))
def Fb_Grammar_check_inner : Rho → SR := (seqF (asgF (tgT 2 (tgCons (tgN 2) (tgCons (tgN 3) tgNil))) (dOp getZ (dUn (fldD "Grammar" "entries") (dVar 0)) (dVar 1))) (forF (dIt itemsT (dVar 3)) (tgN 4) Lp_Grammar_check_inner_1))
def F_Grammar_check_inner : List D → Res D := runF 5 false Fb_Grammar_check_inner
def Lp_Grammar_init_1 : Rho → SR := (seqF (ifF (dT (dOp (inK false) (dVar 3) (dJf 0 7 "Grammar"))) (raiF "Taken" ["kind"] false (dCons (dVar 3) dNil)) .nx) (seqF (putJF 0 7 "Grammar" (dVar 3) (dTup (dCons (dVar 4) (dCons (dCall (g1 tupleD) (dCons (dVar 5) dNil)) dNil)))) (appJF 0 6 "Grammar" (dVar 3))))
def Lp_Grammar_init_2 : Rho → SR := (dropF (dMeth "Grammar" "check_inner" F_Grammar_check_inner (dVar 0) (dCons (dVar 3) dNil)))
def Fb_Grammar_init : Rho → SR := (seqF (fstF 0 "Grammar" "root" (dVar 1)) (gramS 0 6 7 2 "Grammar" "root" "order" "entries" (forF (dIt itemsL (dVar 2)) (tgT 3 (tgCons (tgN 3) (tgCons (tgN 4) (tgCons (tgN 5) tgNil)))) Lp_Grammar_init_1) (seqF (ifF (dT (dOp (inK true) (dVar 1) (dUn (fldD "Grammar" "entries") (dVar 0)))) (raiF "Unknown" ["kind"] false (dCons (dVar 1) dNil)) .nx) (seqF (ifF (dT (dOp neD (dOp ixD (dOp getZ (dUn (fldD "Grammar" "entries") (dVar 0)) (dVar 1)) (dC (.int 0))) (dC (.str (Sg [114, 111, 111, 116]))))) (raiF "Misfit" ["kind"] false (dCons (dVar 1) dNil)) .nx) (forF (dIt itemsL (dUn (fldD "Grammar" "order") (dVar 0))) (tgN 3) Lp_Grammar_init_2)))))
def F_Grammar_init : List D → Res D := runI 8 "Grammar" Fb_Grammar_init
def Fb_Grammar_usual : Rho → SR := (retF (dCall F_Grammar_init (dCons (dC (.str (Sg [100, 111, 99]))) (dCons (dLst (dCons (dTup (dCons (dC (.str (Sg [100, 111, 99]))) (dCons (dC (.str (Sg [114, 111, 111, 116]))) (dCons (dTup (dCons (dC (.str (Sg [104, 101, 97, 100]))) (dCons (dC (.str (Sg [112, 97, 114]))) dNil))) dNil)))) (dCons (dTup (dCons (dC (.str (Sg [104, 101, 97, 100]))) (dCons (dC (.str (Sg [104, 101, 97, 100]))) (dCons (dTup (dCons (dC (.str (Sg [101, 109]))) (dCons (dC (.str (Sg [115, 101, 101]))) dNil))) dNil)))) (dCons (dTup (dCons (dC (.str (Sg [112, 97, 114]))) (dCons (dC (.str (Sg [98, 108, 111, 99, 107]))) (dCons (dTup (dCons (dC (.str (Sg [101, 109]))) (dCons (dC (.str (Sg [110, 111, 116, 101]))) (dCons (dC (.str (Sg [102, 105, 103]))) (dCons (dC (.str (Sg [115, 101, 101]))) dNil))))) dNil)))) (dCons (dTup (dCons (dC (.str (Sg [101, 109]))) (dCons (dC (.str (Sg [115, 112, 97, 110]))) (dCons (dTup (dCons (dC (.str (Sg [101, 109]))) (dCons (dC (.str (Sg [115, 101, 101]))) dNil))) dNil)))) (dCons (dTup (dCons (dC (.str (Sg [110, 111, 116, 101]))) (dCons (dC (.str (Sg [110, 111, 116, 101]))) (dCons (dTup (dCons (dC (.str (Sg [101, 109]))) dNil)) dNil)))) (dCons (dTup (dCons (dC (.str (Sg [102, 105, 103]))) (dCons (dC (.str (Sg [102, 105, 103, 117, 114, 101]))) (dCons (dTup (dCons (dC (.str (Sg [101, 109]))) dNil)) dNil)))) (dCons (dTup (dCons (dC (.str (Sg [115, 101, 101]))) (dCons (dC (.str (Sg [114, 101, 102]))) (dCons (dTup dNil) dNil)))) dNil)))))))) dNil))))
def F_Grammar_usual : List D → Res D := runF 0 false Fb_Grammar_usual
def Fb_Grammar_getitem : Rho → SR := (seqF (ifF (dT (dOp (inK true) (dVar 1) (dUn (fldD "Grammar" "entries") (dVar 0)))) (raiF "Unknown" ["kind"] false (dCons (dVar 1) dNil)) .nx) (retF (dOp getZ (dUn (fldD "Grammar" "entries") (dVar 0)) (dVar 1))))
def F_Grammar_getitem : List D → Res D := runF 2 false Fb_Grammar_getitem
def Fb_Grammar_contains : Rho → SR := (retF (dOp (inK false) (dVar 1) (dUn (fldD "Grammar" "entries") (dVar 0))))
def F_Grammar_contains : List D → Res D := runF 2 false Fb_Grammar_contains
def Fb_Grammar_len : Rho → SR := (retF (dCall (g1 lenD) (dCons (dUn (fldD "Grammar" "order") (dVar 0)) dNil)))
def F_Grammar_len : List D → Res D := runF 1 false Fb_Grammar_len
def Fb_l_cell : Rho → SR := (seqF (ifF (dT (dOp eqD (dCall (g1 lenD) (dCons (dVar 0) dNil)) (dC (.int 0)))) (retF (dOp powD (dC (.int 10)) (dC (.int 18)))) .nx) (seqF (ifF (dT (dOp ltD (dVar 1) (dCall (g1 lenD) (dCons (dVar 0) dNil)))) (retF (dCall (g1 intD) (dCons (dOp ixD (dVar 0) (dVar 1)) dNil))) .nx) (retF (dOp addD (dOp mulX (dC (.int 7)) (dVar 1)) (dCall (g1 sumD) (dCons (dLc (dIt itemsL (dVar 0)) (tgN 2) dYes (dOp modD (dCall (g1 intD) (dCons (dVar 2) dNil)) (dC (.int 1000))) [2]) dNil))))))
def F_l_cell : List D → Res D := runF 3 false Fb_l_cell
def Lp_l_row_1 : Rho → SR := (ifF (dOr (dT (dOp gtD (dVar 3) (dC (.int 0)))) (dT (dOp eqD (dVar 0) (dOp powD (dC (.int 10)) (dC (.int 18)))))) (seqF (appF 2 (dOp modD (dCall (g1 intD) (dCons (dVar 3) dNil)) (dOp ixD (dVar 1) (dVar 4)))) (setF 3 (dOp fdivD (dVar 3) (dOp ixD (dVar 1) (dVar 4))))) (seqF (setF 5 (dOp modD (dCall (g1 intD) (dCons (dOp addD (dOp addD (dOp mulX (dVar 0) (dC (.int 48271))) (dOp mulX (dVar 4) (dC (.int 69621)))) (dC (.int 11))) dNil)) (dC (.int 2147483647)))) (seqF (setF 5 (dOp modD (dCall (g1 intD) (dCons (dOp addD (dOp addD (dOp mulX (dVar 5) (dOp addD (dC (.int 16807)) (dOp mulX (dC (.int 2)) (dVar 4)))) (dOp mulX (dOp mulX (dVar 4) (dVar 4)) (dC (.int 40692)))) (dC (.int 7))) dNil)) (dC (.int 2147483399)))) (appF 2 (dOp modD (dCall (g1 intD) (dCons (dOp fdivD (dVar 5) (dC (.int 31))) dNil)) (dOp ixD (dVar 1) (dVar 4)))))))
def Fb_l_row : Rho → SR := (seqF (setF 2 (dLst dNil)) (seqF (setF 3 (dCall (g2 (intsD max2)) (dCons (dC (.int 0)) (dCons (dOp subD (dVar 0) (dOp powD (dC (.int 10)) (dC (.int 18)))) dNil)))) (seqF (forF (dIts rng1 (dCons (dCall (g1 lenD) (dCons (dVar 1) dNil)) dNil)) (tgN 4) Lp_l_row_1) (retF (dVar 2)))))
def F_l_row : List D → Res D := runF 6 false Fb_l_row
def Lp_l_same_1 (Fself : List D → Res D) : Rho → SR := (ifF (dNot (dT (dCall Fself (dCons (dOp ixD (dVar 0) (dVar 2)) (dCons (dOp ixD (dVar 1) (dVar 2)) dNil))))) (retF (dC (.bl false))) .nx)
def Fb_l_same (Fself : List D → Res D) : Rho → SR := (seqF (ifF (dT (dOp (isD false) (dVar 1) (dC .non))) (retF (dOp (isD false) (dVar 0) (dC .non))) .nx) (seqF (ifF (dT (dUn (isiD "str") (dVar 1))) (retF (dAndV (dUn (isiD "str") (dVar 0)) (dOp eqD (dVar 0) (dVar 1)))) .nx) (seqF (ifF (dT (dUn (isiD "int") (dVar 1))) (retF (dAndV (dUn (isiD "int") (dVar 0)) (dAndV (dNotV (dUn (isiD "bool") (dVar 0))) (dOp eqD (dVar 0) (dVar 1))))) .nx) (seqF (ifF (dOr (dT (dOp neD (dUn (isiD "tuple") (dVar 1)) (dUn (isiD "tuple") (dVar 0)))) (dT (dOp neD (dUn (isiD "list") (dVar 1)) (dUn (isiD "list") (dVar 0))))) (retF (dC (.bl false))) .nx) (seqF (ifF (dT (dOp neD (dCall (g1 lenD) (dCons (dVar 0) dNil)) (dCall (g1 lenD) (dCons (dVar 1) dNil)))) (retF (dC (.bl false))) .nx) (seqF (forF (dIts rng1 (dCons (dCall (g1 lenD) (dCons (dVar 1) dNil)) dNil)) (tgN 2) (Lp_l_same_1 Fself)) (retF (dC (.bl true)))))))))
def F_l_same : Nat → List D → Res D
  | 0 => fun _ => .bad
  | n + 1 => runF 3 false (Fb_l_same (F_l_same n))
def Lp_l_names_1 : Rho → SR := (seqF (setF 6 (dStr joinD (dC (.str (Sg []))) (dLc (dIt itemsL (dSl slD (dVar 3) (dPart (dOp addD (dOp mulX (dC (.int 9)) (dVar 5)) (dC (.int 3)))) (dPart (dOp addD (dOp mulX (dC (.int 9)) (dVar 5)) (dC (.int 11)))))) (tgN 7) dYes (dOp ixD (dVar 2) (dVar 7)) [7]))) (appF 4 (dSl slD (dVar 6) dNoP (dPart (dOp addD (dOp ixD (dVar 3) (dOp addD (dOp mulX (dC (.int 9)) (dVar 5)) (dC (.int 2)))) (dC (.int 1)))))))
def Lp_l_names_2 : Rho → SR := (seqF (ifF (dT (dOp eqD (dOp ixD (dVar 3) (dC (.int 0))) (dC (.int 1)))) (seqF (setF 10 (dOp ixD (dVar 2) (dOp modD (dCall (g1 intD) (dCons (dOp addD (dOp ixD (dVar 3) (dC (.int 3))) (dOp mulX (dC (.int 5)) (dVar 5))) dNil)) (dC (.int 26))))) (stoF 4 (dVar 5) (dOp addD (dOp addD (dSl slD (dVar 8) dNoP (dPart (dVar 9))) (dVar 10)) (dSl slD (dVar 8) (dPart (dOp addD (dVar 9) (dC (.int 1)))) dNoP)))) .nx) (ifF (dT (dOp eqD (dOp ixD (dVar 3) (dC (.int 0))) (dC (.int 2)))) (stoF 4 (dVar 5) (dSl slD (dOp mulX (dVar 8) (dC (.int 8))) dNoP (dPart (dOp addD (dC (.int 1)) (dOp modD (dCall (g1 intD) (dCons (dVar 5) dNil)) (dC (.int 8))))))) .nx))
def Fb_l_names : Rho → SR := (seqF (setF 2 (dC (.str (Sg [97, 98, 99, 100, 101, 102, 103, 104, 105, 106, 107, 108, 109, 110, 111, 112, 113, 114, 115, 116, 117, 118, 119, 120, 121, 122])))) (seqF (setF 3 (dCall F_l_row (dCons (dVar 0) (dCons (dOp addD (dLst (dCons (dC (.int 3)) (dCons (dC (.int 8)) dNil))) (dOp mulX (dLst (dCons (dC (.int 8)) (dCons (dC (.int 26)) (dCons (dC (.int 26)) (dCons (dC (.int 26)) (dCons (dC (.int 26)) (dCons (dC (.int 26)) (dCons (dC (.int 26)) (dCons (dC (.int 26)) (dCons (dC (.int 26)) dNil)))))))))) (dVar 1))) dNil)))) (seqF (setF 4 (dLst dNil)) (seqF (forF (dIts rng1 (dCons (dVar 1) dNil)) (tgN 5) Lp_l_names_1) (seqF (setF 8 (dOp ixD (dVar 4) (dC (.int 0)))) (seqF (setF 9 (dOp modD (dCall (g1 intD) (dCons (dOp ixD (dVar 3) (dC (.int 1))) dNil)) (dCall (g1 lenD) (dCons (dVar 8) dNil)))) (seqF (forF (dIts rng1 (dCons (dVar 1) dNil)) (tgN 5) Lp_l_names_2) (retF (dVar 4)))))))))
def F_l_names : List D → Res D := runF 11 false Fb_l_names
def Lp_l_kinds_1 : Rho → SR := (ifF (dT (dOp inD (dVar 3) (dVar 2))) (setF 3 (dOp addD (dSl slD (dVar 3) dNoP (dPart (dC (.int 7)))) (dVar 4))) .nx)
def Lp_l_kinds_2 : Rho → SR := (seqF (forF (dIt itemsS (dC (.str (Sg [97, 98, 99, 100, 101, 102, 103, 104, 105, 106, 107, 108, 109, 110, 111, 112, 113, 114, 115, 116, 117, 118, 119, 120, 121, 122])))) (tgN 4) Lp_l_kinds_1) (appF 2 (dVar 3)))
def Fb_l_kinds : Rho → SR := (seqF (setF 2 (dLst dNil)) (seqF (forF (dIt itemsL (dCall F_l_names (dCons (dVar 0) (dCons (dVar 1) dNil)))) (tgN 3) Lp_l_kinds_2) (retF (dVar 2))))
def F_l_kinds : List D → Res D := runF 5 false Fb_l_kinds
def Fb_l_may : Rho → SR := (seqF (ifF (dT (dOp eqD (dVar 0) (dC (.str (Sg [114, 111, 111, 116]))))) (retF (dOrV (dOp eqD (dVar 1) (dC (.str (Sg [98, 108, 111, 99, 107])))) (dOp eqD (dVar 1) (dC (.str (Sg [104, 101, 97, 100])))))) .nx) (seqF (ifF (dT (dOp eqD (dVar 0) (dC (.str (Sg [98, 108, 111, 99, 107]))))) (retF (dOp inD (dVar 1) (dLst (dCons (dC (.str (Sg [115, 112, 97, 110]))) (dCons (dC (.str (Sg [110, 111, 116, 101]))) (dCons (dC (.str (Sg [102, 105, 103, 117, 114, 101]))) (dCons (dC (.str (Sg [114, 101, 102]))) dNil))))))) .nx) (seqF (ifF (dOr (dT (dOp eqD (dVar 0) (dC (.str (Sg [104, 101, 97, 100]))))) (dT (dOp eqD (dVar 0) (dC (.str (Sg [115, 112, 97, 110])))))) (retF (dOrV (dOp eqD (dVar 1) (dC (.str (Sg [115, 112, 97, 110])))) (dOp eqD (dVar 1) (dC (.str (Sg [114, 101, 102])))))) .nx) (retF (dAndV (dOrV (dOp eqD (dVar 0) (dC (.str (Sg [110, 111, 116, 101])))) (dOp eqD (dVar 0) (dC (.str (Sg [102, 105, 103, 117, 114, 101]))))) (dOp eqD (dVar 1) (dC (.str (Sg [115, 112, 97, 110])))))))))
def F_l_may : List D → Res D := runF 2 false Fb_l_may
def Lp_l_grammar_1 : Rho → SR := (seqF (setF 11 (dOp modD (dCall (g1 intD) (dCons (dOp addD (dVar 10) (dOp ixD (dVar 3) (dOp addD (dOp mulX (dC (.int 3)) (dVar 6)) (dC (.int 4))))) dNil)) (dVar 2))) (seqF (ifF (dAnd (dT (dOp eqD (dOp modD (dCall (g1 intD) (dCons (dVar 8) dNil)) (dC (.int 2))) (dC (.int 1)))) (dT (dCall F_l_may (dCons (dOp ixD (dVar 5) (dVar 6)) (dCons (dOp ixD (dVar 5) (dVar 11)) dNil))))) (appF 9 (dOp ixD (dVar 1) (dVar 11))) .nx) (setF 8 (dOp fdivD (dVar 8) (dC (.int 2))))))
def Lp_l_grammar_2 : Rho → SR := (seqF (parF 8 9 (dOp ixD (dVar 3) (dOp addD (dOp mulX (dC (.int 3)) (dVar 6)) (dC (.int 3)))) (dLst dNil)) (seqF (forF (dIts rng1 (dCons (dVar 2) dNil)) (tgN 10) Lp_l_grammar_1) (seqF (ifF (dT (dOp eqD (dOp ixD (dVar 3) (dC (.int 1))) (dC (.int 1)))) (revF 9) .nx) (appF 7 (dTup (dCons (dOp ixD (dVar 1) (dVar 6)) (dCons (dOp ixD (dVar 5) (dVar 6)) (dCons (dCall (g1 tupleD) (dCons (dVar 9) dNil)) dNil))))))))
def Fb_l_grammar : Rho → SR := (seqF (setF 2 (dCall (g1 lenD) (dCons (dVar 1) dNil))) (seqF (setF 3 (dCall F_l_row (dCons (dVar 0) (dCons (dOp addD (dLst (dCons (dVar 2) (dCons (dC (.int 2)) dNil))) (dOp mulX (dLst (dCons (dC (.int 9)) (dCons (dC (.int 4096)) (dCons (dVar 2) dNil)))) (dVar 2))) dNil)))) (seqF (setF 4 (dLst (dCons (dC (.str (Sg [98, 108, 111, 99, 107]))) (dCons (dC (.str (Sg [115, 112, 97, 110]))) (dCons (dC (.str (Sg [104, 101, 97, 100]))) (dCons (dC (.str (Sg [110, 111, 116, 101]))) (dCons (dC (.str (Sg [102, 105, 103, 117, 114, 101]))) (dCons (dC (.str (Sg [114, 101, 102]))) (dCons (dC (.str (Sg [98, 108, 111, 99, 107]))) (dCons (dC (.str (Sg [115, 112, 97, 110]))) (dCons (dC (.str (Sg [114, 111, 111, 116]))) dNil))))))))))) (seqF (setF 5 (dLc (dIts rng1 (dCons (dVar 2) dNil)) (tgN 6) dYes (dOp ixD (dVar 4) (dOp ixD (dVar 3) (dOp addD (dOp mulX (dC (.int 3)) (dVar 6)) (dC (.int 2))))) [6])) (seqF (stoF 5 (dOp ixD (dVar 3) (dC (.int 0))) (dC (.str (Sg [114, 111, 111, 116])))) (seqF (setF 7 (dLst dNil)) (seqF (forF (dIts rng1 (dCons (dVar 2) dNil)) (tgN 6) Lp_l_grammar_2) (retF (dTup (dCons (dOp ixD (dVar 1) (dOp ixD (dVar 3) (dC (.int 0)))) (dCons (dVar 7) dNil)))))))))))
def F_l_grammar : List D → Res D := runF 12 false Fb_l_grammar
def Fb_l_error : Rho → SR := (seqF (ifF (dOr (dNot (dT (dIsX isM_ValueError 0))) (dT (dIsX isM_Strange 0))) (retF (dTup (dCons (dC (.str (Sg [119, 114, 111, 110, 103]))) (dCons (dC (.str (Sg []))) dNil)))) .nx) (seqF (ifF (dAnd (dT (dIsX isM_Taken 0)) (dAnd (dNot (dT (dIsX isM_Unknown 0))) (dNot (dT (dIsX isM_Misfit 0))))) (retF (dTup (dCons (dC (.str (Sg [116, 97, 107, 101, 110]))) (dCons (dXf 0 "kind") dNil)))) .nx) (seqF (ifF (dAnd (dT (dIsX isM_Unknown 0)) (dAnd (dNot (dT (dIsX isM_Taken 0))) (dNot (dT (dIsX isM_Misfit 0))))) (retF (dTup (dCons (dC (.str (Sg [117, 110, 107, 110, 111, 119, 110]))) (dCons (dXf 0 "kind") dNil)))) .nx) (seqF (ifF (dAnd (dT (dIsX isM_Misfit 0)) (dAnd (dNot (dT (dIsX isM_Taken 0))) (dNot (dT (dIsX isM_Unknown 0))))) (retF (dTup (dCons (dC (.str (Sg [109, 105, 115, 102, 105, 116]))) (dCons (dXf 0 "kind") dNil)))) .nx) (retF (dTup (dCons (dC (.str (Sg [119, 114, 111, 110, 103]))) (dCons (dC (.str (Sg []))) dNil))))))))
def F_l_error : List D → Res D := runF 1 false Fb_l_error
def Lp_l_due_1 : Rho → SR := (seqF (ifF (dT (dOp (inK false) (dOp ixD (dVar 3) (dC (.int 0))) (dVar 2))) (retF (dTup (dCons (dC (.str (Sg [116, 97, 107, 101, 110]))) (dCons (dOp ixD (dVar 3) (dC (.int 0))) dNil)))) .nx) (putF 2 (dOp ixD (dVar 3) (dC (.int 0))) (dOp ixD (dVar 3) (dC (.int 1)))))
def Lp_l_due_2 : Rho → SR := (seqF (ifF (dT (dOp (inK true) (dVar 4) (dVar 2))) (retF (dTup (dCons (dC (.str (Sg [117, 110, 107, 110, 111, 119, 110]))) (dCons (dVar 4) dNil)))) .nx) (ifF (dNot (dT (dCall F_l_may (dCons (dOp ixD (dVar 3) (dC (.int 1))) (dCons (dOp getZ (dVar 2) (dVar 4)) dNil))))) (retF (dTup (dCons (dC (.str (Sg [109, 105, 115, 102, 105, 116]))) (dCons (dVar 4) dNil)))) .nx))
def Lp_l_due_3 : Rho → SR := (forF (dIt itemsT (dOp ixD (dVar 3) (dC (.int 2)))) (tgN 4) Lp_l_due_2)
def Fb_l_due : Rho → SR := (seqF (setF 2 dD0) (seqF (forF (dIt itemsL (dVar 1)) (tgN 3) Lp_l_due_1) (seqF (ifF (dT (dOp (inK true) (dVar 0) (dVar 2))) (retF (dTup (dCons (dC (.str (Sg [117, 110, 107, 110, 111, 119, 110]))) (dCons (dVar 0) dNil)))) .nx) (seqF (ifF (dT (dOp neD (dOp getZ (dVar 2) (dVar 0)) (dC (.str (Sg [114, 111, 111, 116]))))) (retF (dTup (dCons (dC (.str (Sg [109, 105, 115, 102, 105, 116]))) (dCons (dVar 0) dNil)))) .nx) (seqF (forF (dIt itemsL (dVar 1)) (tgN 3) Lp_l_due_3) (retF (dTup (dCons (dC (.str (Sg [103, 111, 111, 100]))) (dCons (dC (.str (Sg []))) dNil)))))))))
def F_l_due : List D → Res D := runF 5 false Fb_l_due
def Lp_l_tells_1 : Rho → SR := (appF 6 (dTup (dCons (dVar 7) (dCons (dVar 8) dNil))))
def Lp_l_tells_2 : Rho → SR := (forF (dIt (itO "Grammar" "order") (dVar 0)) (tgN 8) Lp_l_tells_1)
def Lp_l_tells_3 : Rho → SR := (ifF (dOr (dT (dOp (inO "Grammar" true F_Grammar_contains) (dOp ixD (dVar 5) (dC (.int 0))) (dVar 0))) (dNot (dT (dCall (F_l_same 4) (dCons (dOp (getO "Grammar" F_Grammar_getitem) (dVar 0) (dOp ixD (dVar 5) (dC (.int 0)))) (dCons (dTup (dCons (dOp ixD (dVar 5) (dC (.int 1))) (dCons (dOp ixD (dVar 5) (dC (.int 2))) dNil))) dNil)))))) (retF (dC (.bl false))) .nx)
def Fb_l_tells : Rho → SR := (seqF (setF 4 (dLc (dIt itemsL (dVar 2)) (tgN 5) dYes (dOp ixD (dVar 5) (dC (.int 0))) [5])) (seqF (ifF (dOr (dNot (dT (dCall (F_l_same 4) (dCons (dUn (fldD "Grammar" "root") (dVar 0)) (dCons (dVar 1) dNil))))) (dOr (dT (dOp neD (dCall (g1 (lenO "Grammar" F_Grammar_len)) (dCons (dVar 0) dNil)) (dCall (g1 lenD) (dCons (dVar 2) dNil)))) (dNot (dT (dCall (F_l_same 4) (dCons (dCall (g1 (listO "Grammar" "order" "order")) (dCons (dVar 0) dNil)) (dCons (dVar 4) dNil))))))) (retF (dC (.bl false))) .nx) (seqF (setF 6 (dLst dNil)) (seqF (forF (dIt (itO "Grammar" "order") (dVar 0)) (tgN 7) Lp_l_tells_2) (seqF (ifF (dOr (dT (dOp neD (dCall (g1 lenD) (dCons (dVar 6) dNil)) (dOp mulX (dCall (g1 lenD) (dCons (dVar 4) dNil)) (dCall (g1 lenD) (dCons (dVar 4) dNil))))) (dT (dOp neD (dOp ixD (dVar 6) (dUn negD (dC (.int 1)))) (dTup (dCons (dOp ixD (dVar 4) (dUn negD (dC (.int 1)))) (dCons (dOp ixD (dVar 4) (dUn negD (dC (.int 1)))) dNil)))))) (retF (dC (.bl false))) .nx) (seqF (forF (dIt itemsL (dVar 2)) (tgN 5) Lp_l_tells_3) (seqF (ifF (dT (dOp (inO "Grammar" false F_Grammar_contains) (dVar 3) (dVar 0))) (retF (dC (.bl false))) .nx) (seqF (tryF isM_LaidError 9 (appF 6 (dOp (getO "Grammar" F_Grammar_getitem) (dVar 0) (dVar 3))) (retF (dCall (F_l_same 4) (dCons (dCall F_l_error (dCons (dVar 9) dNil)) (dCons (dTup (dCons (dC (.str (Sg [117, 110, 107, 110, 111, 119, 110]))) (dCons (dVar 3) dNil))) dNil))))) (retF (dC (.bl false)))))))))))
def F_l_tells : List D → Res D := runF 10 false Fb_l_tells
def Fb_l_asked : Rho → SR := (seqF (setF 3 (dCall (g1 listD) (dCons (dVar 1) dNil))) (seqF (tryF isM_LaidError 5 (setF 4 (dCall F_Grammar_init (dCons (dVar 0) (dCons (dVar 3) dNil)))) (retF (dAndV (dCall (F_l_same 4) (dCons (dCall F_l_error (dCons (dVar 5) dNil)) (dCons (dCall F_l_due (dCons (dVar 0) (dCons (dVar 1) dNil))) dNil))) (dOp eqD (dVar 3) (dVar 1))))) (seqF (ifF (dOr (dT (dOp neD (dCall F_l_due (dCons (dVar 0) (dCons (dVar 1) dNil))) (dTup (dCons (dC (.str (Sg [103, 111, 111, 100]))) (dCons (dC (.str (Sg []))) dNil))))) (dOr (dT (dOp neD (dVar 3) (dVar 1))) (dNot (dT (dCall F_l_tells (dCons (dVar 4) (dCons (dVar 0) (dCons (dVar 1) (dCons (dVar 2) dNil))))))))) (retF (dC (.bl false))) .nx) (seqF (stoF 3 (dC (.int 0)) (dTup (dCons (dVar 2) (dCons (dC (.str (Sg [114, 101, 102]))) (dCons (dTup dNil) dNil))))) (seqF (appF 3 (dTup (dCons (dOp ixD (dOp ixD (dVar 1) (dC (.int 0))) (dC (.int 0))) (dCons (dC (.str (Sg [115, 112, 97, 110]))) (dCons (dTup (dCons (dVar 2) dNil)) dNil))))) (retF (dCall F_l_tells (dCons (dVar 4) (dCons (dVar 0) (dCons (dVar 1) (dCons (dVar 2) dNil)))))))))))
def F_l_asked : List D → Res D := runF 6 false Fb_l_asked
def Fb_l_put : Rho → SR := (seqF (ifF (dT (dOp inD (dVar 2) (dVar 0))) (retF (dVar 0)) .nx) (seqF (setF 3 (dOp modD (dCall (g1 intD) (dCons (dVar 1) dNil)) (dOp addD (dCall (g1 lenD) (dCons (dVar 0) dNil)) (dC (.int 1))))) (retF (dOp addD (dOp addD (dSl slD (dVar 0) dNoP (dPart (dVar 3))) (dTup (dCons (dVar 2) dNil))) (dSl slD (dVar 0) (dPart (dVar 3)) dNoP)))))
def F_l_put : List D → Res D := runF 4 false Fb_l_put
def Lp_l_changed_1 : Rho → SR := (seqF (parF 6 7 (dOp ixD (dVar 2) (dOp addD (dOp mulX (dC (.int 4)) (dVar 5)) (dC (.int 1)))) (dOp ixD (dVar 2) (dOp addD (dOp mulX (dC (.int 4)) (dVar 5)) (dC (.int 4))))) (seqF (setF 8 (dOp modD (dCall (g1 intD) (dCons (dOp ixD (dVar 2) (dOp addD (dOp mulX (dC (.int 4)) (dVar 5)) (dC (.int 2)))) dNil)) (dCall (g1 lenD) (dCons (dVar 1) dNil)))) (seqF (setF 9 (dOp modD (dCall (g1 intD) (dCons (dOp ixD (dVar 2) (dOp addD (dOp mulX (dC (.int 4)) (dVar 5)) (dC (.int 3)))) dNil)) (dCall (g1 lenD) (dCons (dVar 1) dNil)))) (seqF (asgF (tgT 3 (tgCons (tgN 10) (tgCons (tgN 11) (tgCons (tgN 12) tgNil)))) (dOp ixD (dVar 1) (dVar 8))) (ifF (dT (dOp eqD (dVar 6) (dC (.int 0)))) (stoF 1 (dVar 8) (dTup (dCons (dOp ixD (dOp ixD (dVar 1) (dVar 9)) (dC (.int 0))) (dCons (dVar 11) (dCons (dVar 12) dNil))))) (ifF (dT (dOp eqD (dVar 6) (dC (.int 1)))) (stoF 1 (dVar 8) (dTup (dCons (dVar 10) (dCons (dVar 11) (dCons (dCall F_l_put (dCons (dVar 12) (dCons (dVar 7) (dCons (dVar 3) dNil)))) dNil))))) (ifF (dT (dOp eqD (dVar 6) (dC (.int 2)))) (stoF 1 (dVar 8) (dTup (dCons (dVar 10) (dCons (dVar 11) (dCons (dCall F_l_put (dCons (dVar 12) (dCons (dVar 7) (dCons (dOp ixD (dOp ixD (dVar 1) (dVar 9)) (dC (.int 0))) dNil)))) dNil))))) (ifF (dT (dOp eqD (dVar 6) (dC (.int 3)))) (stoF 1 (dVar 8) (dTup (dCons (dVar 10) (dCons (dOp ixD (dVar 4) (dOp modD (dCall (g1 intD) (dCons (dVar 7) dNil)) (dC (.int 7)))) (dCons (dVar 12) dNil))))) (ifF (dT (dOp eqD (dVar 6) (dC (.int 4)))) (setF 0 (dOp ixD (dLst (dCons (dVar 3) (dCons (dOp ixD (dOp ixD (dVar 1) (dVar 9)) (dC (.int 0))) dNil))) (dCall (g1 intD) (dCons (dOp gtD (dVar 7) (dC (.int 2))) dNil)))) (seqF (stoF 1 (dVar 8) (dOp ixD (dVar 1) (dVar 9))) (stoF 1 (dVar 9) (dTup (dCons (dVar 10) (dCons (dVar 11) (dCons (dVar 12) dNil)))))))))))))))
def Fb_l_changed : Rho → SR := (seqF (setF 1 (dCall (g1 listD) (dCons (dVar 1) dNil))) (seqF (setF 4 (dLst (dCons (dC (.str (Sg [114, 111, 111, 116]))) (dCons (dC (.str (Sg [98, 108, 111, 99, 107]))) (dCons (dC (.str (Sg [104, 101, 97, 100]))) (dCons (dC (.str (Sg [115, 112, 97, 110]))) (dCons (dC (.str (Sg [110, 111, 116, 101]))) (dCons (dC (.str (Sg [102, 105, 103, 117, 114, 101]))) (dCons (dC (.str (Sg [114, 101, 102]))) dNil))))))))) (seqF (forF (dIts rng1 (dCons (dOp ixD (dVar 2) (dC (.int 0))) dNil)) (tgN 5) Lp_l_changed_1) (retF (dTup (dCons (dVar 0) (dCons (dVar 1) dNil)))))))
def F_l_changed : List D → Res D := runF 13 false Fb_l_changed
def Fb_law : Rho → SR := (seqF (setF 1 (dCall F_l_kinds (dCons (dCall F_l_cell (dCons (dVar 0) (dCons (dC (.int 1)) dNil))) (dCons (dC (.int 13)) dNil)))) (seqF (setF 2 (dOp addD (dC (.int 1)) (dOp modD (dCall (g1 intD) (dCons (dCall F_l_cell (dCons (dVar 0) (dCons (dC (.int 3)) dNil))) dNil)) (dC (.int 12))))) (seqF (asgF (tgT 2 (tgCons (tgN 3) (tgCons (tgN 4) tgNil))) (dCall F_l_grammar (dCons (dCall F_l_cell (dCons (dVar 0) (dCons (dC (.int 0)) dNil))) (dCons (dSl slD (dVar 1) dNoP (dPart (dVar 2))) dNil)))) (seqF (setF 5 (dCall F_l_row (dCons (dCall F_l_cell (dCons (dVar 0) (dCons (dC (.int 2)) dNil))) (dCons (dOp addD (dLst (dCons (dC (.int 4)) dNil)) (dOp mulX (dLst (dCons (dC (.int 6)) (dCons (dC (.int 12)) (dCons (dC (.int 12)) (dCons (dC (.int 12)) dNil))))) (dC (.int 3)))) dNil)))) (seqF (asgF (tgT 2 (tgCons (tgN 6) (tgCons (tgN 7) tgNil))) (dCall F_l_changed (dCons (dVar 3) (dCons (dVar 4) (dCons (dVar 5) (dCons (dOp ixD (dVar 1) (dC (.int 12))) dNil)))))) (seqF (setF 8 (dLst (dCons (dTup (dCons (dC (.str (Sg [100, 111, 99]))) (dCons (dC (.str (Sg [114, 111, 111, 116]))) (dCons (dTup (dCons (dC (.str (Sg [104, 101, 97, 100]))) (dCons (dC (.str (Sg [112, 97, 114]))) dNil))) dNil)))) (dCons (dTup (dCons (dC (.str (Sg [104, 101, 97, 100]))) (dCons (dC (.str (Sg [104, 101, 97, 100]))) (dCons (dTup (dCons (dC (.str (Sg [101, 109]))) (dCons (dC (.str (Sg [115, 101, 101]))) dNil))) dNil)))) (dCons (dTup (dCons (dC (.str (Sg [112, 97, 114]))) (dCons (dC (.str (Sg [98, 108, 111, 99, 107]))) (dCons (dTup (dCons (dC (.str (Sg [101, 109]))) (dCons (dC (.str (Sg [110, 111, 116, 101]))) (dCons (dC (.str (Sg [102, 105, 103]))) (dCons (dC (.str (Sg [115, 101, 101]))) dNil))))) dNil)))) (dCons (dTup (dCons (dC (.str (Sg [101, 109]))) (dCons (dC (.str (Sg [115, 112, 97, 110]))) (dCons (dTup (dCons (dC (.str (Sg [101, 109]))) (dCons (dC (.str (Sg [115, 101, 101]))) dNil))) dNil)))) (dCons (dTup (dCons (dC (.str (Sg [110, 111, 116, 101]))) (dCons (dC (.str (Sg [110, 111, 116, 101]))) (dCons (dTup (dCons (dC (.str (Sg [101, 109]))) dNil)) dNil)))) (dCons (dTup (dCons (dC (.str (Sg [102, 105, 103]))) (dCons (dC (.str (Sg [102, 105, 103, 117, 114, 101]))) (dCons (dTup (dCons (dC (.str (Sg [101, 109]))) dNil)) dNil)))) (dCons (dTup (dCons (dC (.str (Sg [115, 101, 101]))) (dCons (dC (.str (Sg [114, 101, 102]))) (dCons (dTup dNil) dNil)))) dNil))))))))) (seqF (setF 9 (dCall F_Grammar_init (dCons (dVar 3) (dCons (dCall (g1 listD) (dCons (dVar 4) dNil)) dNil)))) (seqF (ifF (dOr (dNot (dT (dCall F_l_tells (dCons (dVar 9) (dCons (dVar 3) (dCons (dVar 4) (dCons (dOp ixD (dVar 1) (dC (.int 12))) dNil))))))) (dNot (dT (dCall F_l_asked (dCons (dVar 6) (dCons (dVar 7) (dCons (dOp ixD (dVar 1) (dC (.int 12))) dNil))))))) (retF (dC (.bl false))) .nx) (seqF (ifF (dOr (dNot (dT (dCall F_l_tells (dCons (dCall F_Grammar_usual dNil) (dCons (dC (.str (Sg [100, 111, 99]))) (dCons (dVar 8) (dCons (dC (.str (Sg [115, 101, 101, 110]))) dNil))))))) (dNot (dT (dCall F_l_asked (dCons (dVar 3) (dCons (dVar 4) (dCons (dOp ixD (dVar 1) (dC (.int 12))) dNil))))))) (retF (dC (.bl false))) .nx) (retF (dCall F_l_tells (dCons (dVar 9) (dCons (dVar 3) (dCons (dVar 4) (dCons (dOp ixD (dVar 1) (dC (.int 12))) dNil)))))))))))))))
def F_law : List D → Res D := runF 10 false Fb_law
end
end Lk
end S_P_data
section S_MM_ta
set_option Elab.async false
set_option linter.all false
set_option maxHeartbeats 2000000
set_option maxRecDepth 100000
namespace Lk
open PySem L2 Dx
local macro_rules
  | `(tactic| array_get_dec) => `(tactic| repeat (first
    | ((with_reducible apply Dx.rs_asSJ); · (first | omega | (simp only [List.length_append, List.length_cons, List.length_nil, List.length_map, List.length_range, List.length_replicate, List.length_reverse, List.length_take, List.length_drop]; omega)))
    | with_reducible refine Dx.rs_c ?_
    | with_reducible refine Dx.rs_op ?_
    | with_reducible refine Dx.rs_str ?_
    | with_reducible refine Dx.rs_asS ?_
    | with_reducible refine Dx.rs_un ?_
    | with_reducible refine Dx.rs_nil ?_
    | with_reducible refine Dx.rs_cons ?_
    | with_reducible refine Dx.rs_call ?_
    | with_reducible refine Dx.rs_T ?_
    | with_reducible refine Dx.rs_asB ?_
    | with_reducible refine Dx.rs_asI ?_
    | with_reducible refine Dx.rs_not ?_
    | with_reducible refine Dx.rs_and ?_
    | with_reducible refine Dx.rs_or ?_
    | with_reducible refine Dx.rs_andV ?_
    | with_reducible refine Dx.rs_orV ?_
    | with_reducible refine Dx.rs_notV ?_
    | with_reducible refine Dx.rs_chain ?_
    | with_reducible refine Dx.rs_noP ?_
    | with_reducible refine Dx.rs_part ?_
    | with_reducible refine Dx.rs_sl ?_
    | with_reducible refine Dx.rs_it ?_
    | with_reducible refine Dx.rs_its ?_
    | with_reducible refine Dx.rs_yes ?_
    | with_reducible refine Dx.rs_meth ?_
    | with_reducible refine Dx.rs_tru ?_
    | with_reducible refine Dx.rs_truB ?_
    | with_reducible refine Dx.rs_truI ?_
    | with_reducible refine Dx.rs_truL ?_
    | with_reducible refine Dx.rs_truT ?_
    | with_reducible refine Dx.rs_truN ?_
    | with_reducible refine Dx.rs_ifx ?_
    | with_reducible refine Dx.rs_add ?_
    | with_reducible refine Dx.rs_sub ?_
    | with_reducible refine Dx.rs_neg ?_
    | with_reducible refine Dx.rs_eqI ?_
    | with_reducible refine Dx.rs_neI ?_
    | with_reducible refine Dx.rs_eqS ?_
    | with_reducible refine Dx.rs_neS ?_
    | with_reducible refine Dx.rs_eqB ?_
    | with_reducible refine Dx.rs_neB ?_
    | with_reducible refine Dx.rs_lt ?_
    | with_reducible refine Dx.rs_le ?_
    | with_reducible refine Dx.rs_gt ?_
    | with_reducible refine Dx.rs_ge ?_
    | with_reducible refine Dx.rs_is ?_
    | with_reducible refine Dx.rs_isn ?_
    | with_reducible refine Dx.rs_inS ?_
    | with_reducible refine Dx.rs_ninS ?_
    | with_reducible refine Dx.rs_lenL ?_
    | with_reducible refine Dx.rs_lenF ?_
    | with_reducible refine Dx.rs_lenT ?_
    | with_reducible refine Dx.rs_int ?_
    | with_reducible refine Dx.rs_intB ?_
    | with_reducible refine Dx.rs_abs ?_
    | with_reducible refine Dx.rs_listL ?_
    | with_reducible refine Dx.rs_listT ?_
    | with_reducible refine Dx.rs_tupL ?_
    | with_reducible refine Dx.rs_tupT ?_
    | with_reducible refine Dx.rs_slL ?_
    | with_reducible refine Dx.rs_slO ?_
    | with_reducible refine Dx.rs_slT ?_
    | with_reducible refine Dx.rs_itsL ?_
    | with_reducible refine Dx.rs_itsT ?_
    | with_reducible refine Dx.rs_itsS ?_
    | with_reducible refine Dx.rs_enL ?_
    | with_reducible refine Dx.rs_enT ?_
    | with_reducible refine Dx.rs_enS ?_
    | with_reducible refine Dx.rs_ints ?_
    | with_reducible refine Dx.rs_sortI ?_
    | with_reducible refine Dx.rs_sum ?_
    | with_reducible refine Dx.rs_g2 ?_
    | with_reducible refine Dx.rs_all ?_
    | with_reducible refine Dx.rs_disp ?_
    | with_reducible refine Dx.rs_pnil ?_
    | with_reducible refine Dx.rs_pcons ?_
    | with_reducible refine Dx.rs_jnil ?_
    | with_reducible refine Dx.rs_jcons ?_
    | with_reducible refine Dx.rs_dJoin ?_
    | with_reducible refine Dx.rs_ord ?_
    | with_reducible refine Dx.rs_leS ?_
    | with_reducible refine Dx.rs_inKI ?_
    | with_reducible refine Dx.rs_inI ?_
    | with_reducible refine Dx.rs_ninI ?_
    | with_reducible refine Dx.rs_inTk ?_
    | with_reducible refine Dx.rs_getET ?_
    | with_reducible refine Dx.rs_dD0 ?_
    | with_reducible refine Dx.rs_listTk ?_
    | with_reducible refine Dx.rs_lenTk ?_
    | with_reducible refine Dx.rs_itTk ?_
    | with_reducible refine Dx.rs_end ?_
    | with_reducible refine Dx.rs_start ?_
    | with_reducible refine Dx.rs_star ?_
    | with_reducible refine Dx.rs_itemsL ?_
    | with_reducible refine Dx.rs_itemsT ?_
    | with_reducible refine Dx.rs_zipL ?_
    | with_reducible refine Dx.rs_zipS ?_
    | with_reducible refine Dx.rs_isi_non_bool ?_
    | with_reducible refine Dx.rs_isi_non_int ?_
    | with_reducible refine Dx.rs_isi_non_str ?_
    | with_reducible refine Dx.rs_isi_non_tuple ?_
    | with_reducible refine Dx.rs_isi_non_list ?_
    | with_reducible refine Dx.rs_isi_bl_bool ?_
    | with_reducible refine Dx.rs_isi_bl_int ?_
    | with_reducible refine Dx.rs_isi_bl_str ?_
    | with_reducible refine Dx.rs_isi_bl_tuple ?_
    | with_reducible refine Dx.rs_isi_bl_list ?_
    | with_reducible refine Dx.rs_isi_int_bool ?_
    | with_reducible refine Dx.rs_isi_int_int ?_
    | with_reducible refine Dx.rs_isi_int_str ?_
    | with_reducible refine Dx.rs_isi_int_tuple ?_
    | with_reducible refine Dx.rs_isi_int_list ?_
    | with_reducible refine Dx.rs_isi_str_bool ?_
    | with_reducible refine Dx.rs_isi_str_int ?_
    | with_reducible refine Dx.rs_isi_str_str ?_
    | with_reducible refine Dx.rs_isi_str_tuple ?_
    | with_reducible refine Dx.rs_isi_str_list ?_
    | with_reducible refine Dx.rs_isi_lst_bool ?_
    | with_reducible refine Dx.rs_isi_lst_int ?_
    | with_reducible refine Dx.rs_isi_lst_str ?_
    | with_reducible refine Dx.rs_isi_lst_tuple ?_
    | with_reducible refine Dx.rs_isi_lst_list ?_
    | with_reducible refine Dx.rs_isi_tup_bool ?_
    | with_reducible refine Dx.rs_isi_tup_int ?_
    | with_reducible refine Dx.rs_isi_tup_str ?_
    | with_reducible refine Dx.rs_isi_tup_tuple ?_
    | with_reducible refine Dx.rs_isi_tup_list ?_
    | with_reducible refine Dx.ss_nx ?_
    | with_reducible refine Dx.ss_bk ?_
    | with_reducible refine Dx.ss_ct ?_
    | with_reducible refine Dx.ss_seq ?_
    | with_reducible refine Dx.ss_set ?_
    | with_reducible refine Dx.ss_ret ?_
    | with_reducible refine Dx.ss_drop ?_
    | with_reducible refine Dx.ss_if ?_
    | with_reducible refine Dx.ss_par ?_
    | with_reducible refine Dx.ss_par3 ?_
    | with_reducible refine Dx.ss_aug ?_
    | ((with_reducible apply Dx.rs_var); · (rfl))
    | ((with_reducible apply Dx.rs_ixL); · (first | rfl | assumption))
    | ((with_reducible apply Dx.rs_ixF); · (first | rfl | assumption))
    | ((with_reducible apply Dx.rs_ixT); · (first | rfl | assumption))
    | ((with_reducible apply Dx.rs_fld); · (rfl))
    | ((with_reducible apply Dx.rs_isObj); · (decide))
    | ((with_reducible apply Dx.rs_mod); · (omega))
    | ((with_reducible apply Dx.rs_fdiv); · (omega))
    | ((with_reducible apply Dx.rs_addS); · ((first | exact Nat.le_of_ble_eq_true rfl | assumption | (refine Nat.le_trans (m := 100000) ?_ Dx.sz5; first | omega | (simp only [List.length_append, List.length_cons, List.length_nil, List.length_map, List.length_range, List.length_replicate, List.length_reverse, List.length_take, List.length_drop]; omega)))))
    | ((with_reducible apply Dx.rs_addT); · ((first | exact Nat.le_of_ble_eq_true rfl | assumption | (refine Nat.le_trans (m := 100000) ?_ Dx.sz5; first | omega | (simp only [List.length_append, List.length_cons, List.length_nil, List.length_map, List.length_range, List.length_replicate, List.length_reverse, List.length_take, List.length_drop]; omega)))))
    | ((with_reducible apply Dx.rs_addLL); · ((first | exact Nat.le_of_ble_eq_true rfl | assumption | (refine Nat.le_trans (m := 100000) ?_ Dx.sz5; first | omega | (simp only [List.length_append, List.length_cons, List.length_nil, List.length_map, List.length_range, List.length_replicate, List.length_reverse, List.length_take, List.length_drop]; omega)))))
    | ((with_reducible apply Dx.rs_addLO); · ((first | exact Nat.le_of_ble_eq_true rfl | assumption | (refine Nat.le_trans (m := 100000) ?_ Dx.sz5; first | omega | (simp only [List.length_append, List.length_cons, List.length_nil, List.length_map, List.length_range, List.length_replicate, List.length_reverse, List.length_take, List.length_drop]; omega)))))
    | ((with_reducible apply Dx.rs_lenS); · ((first | exact Nat.le_of_ble_eq_true rfl | assumption | (refine Nat.le_trans (m := 100000) ?_ Dx.sz5; first | omega | (simp only [List.length_append, List.length_cons, List.length_nil, List.length_map, List.length_range, List.length_replicate, List.length_reverse, List.length_take, List.length_drop]; omega)))))
    | ((with_reducible apply Dx.rs_slS); · ((first | exact Nat.le_of_ble_eq_true rfl | assumption | (refine Nat.le_trans (m := 100000) ?_ Dx.sz5; first | omega | (simp only [List.length_append, List.length_cons, List.length_nil, List.length_map, List.length_range, List.length_replicate, List.length_reverse, List.length_take, List.length_drop]; omega)))))
    | ((with_reducible apply Dx.rs_mul); · ((first | exact Or.inl (Dx.small_of (by omega) (by omega)) | exact Or.inr (Dx.small_of (by omega) (by omega)))))
    | ((with_reducible apply Dx.rs_strI); · (omega))
    | ((with_reducible apply Dx.rs_fmtI); · (omega))
    | ((with_reducible apply Dx.rs_fmtS); · ((first | exact Nat.le_of_ble_eq_true rfl | assumption | (refine Nat.le_trans (m := 100000) ?_ Dx.sz5; first | omega | (simp only [List.length_append, List.length_cons, List.length_nil, List.length_map, List.length_range, List.length_replicate, List.length_reverse, List.length_take, List.length_drop]; omega)))))
    | ((with_reducible apply Dx.rs_split); · (refine And.intro (by decide) ?_; (first | exact Nat.le_of_ble_eq_true rfl | assumption | (refine Nat.le_trans (m := 100000) ?_ Dx.sz5; first | omega | (simp only [List.length_append, List.length_cons, List.length_nil, List.length_map, List.length_range, List.length_replicate, List.length_reverse, List.length_take, List.length_drop]; omega)))))
    | ((with_reducible apply Dx.ss_app); · (rfl))
    | (with_reducible refine Dx.rs_tup ?_)
    | (with_reducible refine Dx.rs_lst ?_)
    | ((with_reducible refine And.intro (a := List.length _ ≤ PySem.sizeLine) ?_ ?_); · ((first | exact Nat.le_of_ble_eq_true rfl | assumption | (refine Nat.le_trans (m := 100000) ?_ Dx.sz5; first | omega | (simp only [List.length_append, List.length_cons, List.length_nil, List.length_map, List.length_range, List.length_replicate, List.length_reverse, List.length_take, List.length_drop]; omega)))))
    | ((with_reducible refine And.intro (a := List.length _ < PySem.sizeLine) ?_ ?_); · (first | exact Nat.le_of_ble_eq_true rfl | (refine Nat.lt_of_lt_of_le (m := 100000) ?_ Dx.sz5; first | omega | (simp only [List.length_append, List.length_cons, List.length_nil, List.length_map, List.length_range, List.length_replicate, List.length_reverse, List.length_take, List.length_drop]; omega))))))
local macro_rules
  | `(tactic| array_mem_dec) => `(tactic| repeat (first
    | with_reducible refine Dx.ss_ifo ?_
    | with_reducible refine Dx.ss_ifa ?_
    | with_reducible refine Dx.rs_andc ?_
    | with_reducible refine Dx.rs_orc ?_
    | with_reducible refine Dx.rs_andVc ?_
    | with_reducible refine Dx.rs_orVc ?_
    | ((with_reducible apply Dx.rs_asSJ); · (first | omega | (simp only [List.length_append, List.length_cons, List.length_nil, List.length_map, List.length_range, List.length_replicate, List.length_reverse, List.length_take, List.length_drop]; omega)))
    | with_reducible refine Dx.rs_c ?_
    | with_reducible refine Dx.rs_op ?_
    | with_reducible refine Dx.rs_str ?_
    | with_reducible refine Dx.rs_asS ?_
    | with_reducible refine Dx.rs_un ?_
    | with_reducible refine Dx.rs_nil ?_
    | with_reducible refine Dx.rs_cons ?_
    | with_reducible refine Dx.rs_call ?_
    | with_reducible refine Dx.rs_T ?_
    | with_reducible refine Dx.rs_asB ?_
    | with_reducible refine Dx.rs_asI ?_
    | with_reducible refine Dx.rs_not ?_
    | with_reducible refine Dx.rs_notV ?_
    | with_reducible refine Dx.rs_chain ?_
    | with_reducible refine Dx.rs_noP ?_
    | with_reducible refine Dx.rs_part ?_
    | with_reducible refine Dx.rs_sl ?_
    | with_reducible refine Dx.rs_it ?_
    | with_reducible refine Dx.rs_its ?_
    | with_reducible refine Dx.rs_yes ?_
    | with_reducible refine Dx.rs_meth ?_
    | with_reducible refine Dx.rs_tru ?_
    | with_reducible refine Dx.rs_truB ?_
    | with_reducible refine Dx.rs_truI ?_
    | with_reducible refine Dx.rs_truL ?_
    | with_reducible refine Dx.rs_truT ?_
    | with_reducible refine Dx.rs_truN ?_
    | with_reducible refine Dx.rs_add ?_
    | with_reducible refine Dx.rs_sub ?_
    | with_reducible refine Dx.rs_neg ?_
    | with_reducible refine Dx.rs_eqI ?_
    | with_reducible refine Dx.rs_neI ?_
    | with_reducible refine Dx.rs_eqS ?_
    | with_reducible refine Dx.rs_neS ?_
    | with_reducible refine Dx.rs_eqB ?_
    | with_reducible refine Dx.rs_neB ?_
    | with_reducible refine Dx.rs_lt ?_
    | with_reducible refine Dx.rs_le ?_
    | with_reducible refine Dx.rs_gt ?_
    | with_reducible refine Dx.rs_ge ?_
    | with_reducible refine Dx.rs_is ?_
    | with_reducible refine Dx.rs_isn ?_
    | with_reducible refine Dx.rs_inS ?_
    | with_reducible refine Dx.rs_ninS ?_
    | with_reducible refine Dx.rs_lenL ?_
    | with_reducible refine Dx.rs_lenF ?_
    | with_reducible refine Dx.rs_lenT ?_
    | with_reducible refine Dx.rs_int ?_
    | with_reducible refine Dx.rs_intB ?_
    | with_reducible refine Dx.rs_abs ?_
    | with_reducible refine Dx.rs_listL ?_
    | with_reducible refine Dx.rs_listT ?_
    | with_reducible refine Dx.rs_tupL ?_
    | with_reducible refine Dx.rs_tupT ?_
    | with_reducible refine Dx.rs_slL ?_
    | with_reducible refine Dx.rs_slO ?_
    | with_reducible refine Dx.rs_slT ?_
    | with_reducible refine Dx.rs_itsL ?_
    | with_reducible refine Dx.rs_itsT ?_
    | with_reducible refine Dx.rs_itsS ?_
    | with_reducible refine Dx.rs_enL ?_
    | with_reducible refine Dx.rs_enT ?_
    | with_reducible refine Dx.rs_enS ?_
    | with_reducible refine Dx.rs_ints ?_
    | with_reducible refine Dx.rs_sortI ?_
    | with_reducible refine Dx.rs_sum ?_
    | with_reducible refine Dx.rs_g2 ?_
    | with_reducible refine Dx.rs_all ?_
    | with_reducible refine Dx.rs_disp ?_
    | with_reducible refine Dx.rs_pnil ?_
    | with_reducible refine Dx.rs_pcons ?_
    | with_reducible refine Dx.rs_jnil ?_
    | with_reducible refine Dx.rs_jcons ?_
    | with_reducible refine Dx.rs_dJoin ?_
    | with_reducible refine Dx.rs_ord ?_
    | with_reducible refine Dx.rs_leS ?_
    | with_reducible refine Dx.rs_inKI ?_
    | with_reducible refine Dx.rs_inI ?_
    | with_reducible refine Dx.rs_ninI ?_
    | with_reducible refine Dx.rs_inTk ?_
    | with_reducible refine Dx.rs_getET ?_
    | with_reducible refine Dx.rs_dD0 ?_
    | with_reducible refine Dx.rs_listTk ?_
    | with_reducible refine Dx.rs_lenTk ?_
    | with_reducible refine Dx.rs_itTk ?_
    | with_reducible refine Dx.rs_end ?_
    | with_reducible refine Dx.rs_start ?_
    | with_reducible refine Dx.rs_star ?_
    | with_reducible refine Dx.rs_itemsL ?_
    | with_reducible refine Dx.rs_itemsT ?_
    | with_reducible refine Dx.rs_zipL ?_
    | with_reducible refine Dx.rs_zipS ?_
    | with_reducible refine Dx.rs_isi_non_bool ?_
    | with_reducible refine Dx.rs_isi_non_int ?_
    | with_reducible refine Dx.rs_isi_non_str ?_
    | with_reducible refine Dx.rs_isi_non_tuple ?_
    | with_reducible refine Dx.rs_isi_non_list ?_
    | with_reducible refine Dx.rs_isi_bl_bool ?_
    | with_reducible refine Dx.rs_isi_bl_int ?_
    | with_reducible refine Dx.rs_isi_bl_str ?_
    | with_reducible refine Dx.rs_isi_bl_tuple ?_
    | with_reducible refine Dx.rs_isi_bl_list ?_
    | with_reducible refine Dx.rs_isi_int_bool ?_
    | with_reducible refine Dx.rs_isi_int_int ?_
    | with_reducible refine Dx.rs_isi_int_str ?_
    | with_reducible refine Dx.rs_isi_int_tuple ?_
    | with_reducible refine Dx.rs_isi_int_list ?_
    | with_reducible refine Dx.rs_isi_str_bool ?_
    | with_reducible refine Dx.rs_isi_str_int ?_
    | with_reducible refine Dx.rs_isi_str_str ?_
    | with_reducible refine Dx.rs_isi_str_tuple ?_
    | with_reducible refine Dx.rs_isi_str_list ?_
    | with_reducible refine Dx.rs_isi_lst_bool ?_
    | with_reducible refine Dx.rs_isi_lst_int ?_
    | with_reducible refine Dx.rs_isi_lst_str ?_
    | with_reducible refine Dx.rs_isi_lst_tuple ?_
    | with_reducible refine Dx.rs_isi_lst_list ?_
    | with_reducible refine Dx.rs_isi_tup_bool ?_
    | with_reducible refine Dx.rs_isi_tup_int ?_
    | with_reducible refine Dx.rs_isi_tup_str ?_
    | with_reducible refine Dx.rs_isi_tup_tuple ?_
    | with_reducible refine Dx.rs_isi_tup_list ?_
    | with_reducible refine Dx.ss_nx ?_
    | with_reducible refine Dx.ss_bk ?_
    | with_reducible refine Dx.ss_ct ?_
    | with_reducible refine Dx.ss_seq ?_
    | with_reducible refine Dx.ss_set ?_
    | with_reducible refine Dx.ss_ret ?_
    | with_reducible refine Dx.ss_drop ?_
    | with_reducible refine Dx.ss_if ?_
    | with_reducible refine Dx.ss_par ?_
    | with_reducible refine Dx.ss_par3 ?_
    | with_reducible refine Dx.ss_aug ?_
    | ((with_reducible apply Dx.rs_var); · (rfl))
    | ((with_reducible apply Dx.rs_ixL); · (first | rfl | assumption))
    | ((with_reducible apply Dx.rs_ixF); · (first | rfl | assumption))
    | ((with_reducible apply Dx.rs_ixT); · (first | rfl | assumption))
    | ((with_reducible apply Dx.rs_fld); · (rfl))
    | ((with_reducible apply Dx.rs_isObj); · (decide))
    | ((with_reducible apply Dx.rs_mod); · (omega))
    | ((with_reducible apply Dx.rs_fdiv); · (omega))
    | ((with_reducible apply Dx.rs_addS); · ((first | exact Nat.le_of_ble_eq_true rfl | assumption | (refine Nat.le_trans (m := 100000) ?_ Dx.sz5; first | omega | (simp only [List.length_append, List.length_cons, List.length_nil, List.length_map, List.length_range, List.length_replicate, List.length_reverse, List.length_take, List.length_drop]; omega)))))
    | ((with_reducible apply Dx.rs_addT); · ((first | exact Nat.le_of_ble_eq_true rfl | assumption | (refine Nat.le_trans (m := 100000) ?_ Dx.sz5; first | omega | (simp only [List.length_append, List.length_cons, List.length_nil, List.length_map, List.length_range, List.length_replicate, List.length_reverse, List.length_take, List.length_drop]; omega)))))
    | ((with_reducible apply Dx.rs_addLL); · ((first | exact Nat.le_of_ble_eq_true rfl | assumption | (refine Nat.le_trans (m := 100000) ?_ Dx.sz5; first | omega | (simp only [List.length_append, List.length_cons, List.length_nil, List.length_map, List.length_range, List.length_replicate, List.length_reverse, List.length_take, List.length_drop]; omega)))))
    | ((with_reducible apply Dx.rs_addLO); · ((first | exact Nat.le_of_ble_eq_true rfl | assumption | (refine Nat.le_trans (m := 100000) ?_ Dx.sz5; first | omega | (simp only [List.length_append, List.length_cons, List.length_nil, List.length_map, List.length_range, List.length_replicate, List.length_reverse, List.length_take, List.length_drop]; omega)))))
    | ((with_reducible apply Dx.rs_lenS); · ((first | exact Nat.le_of_ble_eq_true rfl | assumption | (refine Nat.le_trans (m := 100000) ?_ Dx.sz5; first | omega | (simp only [List.length_append, List.length_cons, List.length_nil, List.length_map, List.length_range, List.length_replicate, List.length_reverse, List.length_take, List.length_drop]; omega)))))
    | ((with_reducible apply Dx.rs_slS); · ((first | exact Nat.le_of_ble_eq_true rfl | assumption | (refine Nat.le_trans (m := 100000) ?_ Dx.sz5; first | omega | (simp only [List.length_append, List.length_cons, List.length_nil, List.length_map, List.length_range, List.length_replicate, List.length_reverse, List.length_take, List.length_drop]; omega)))))
    | ((with_reducible apply Dx.rs_mul); · ((first | exact Or.inl (Dx.small_of (by omega) (by omega)) | exact Or.inr (Dx.small_of (by omega) (by omega)))))
    | ((with_reducible apply Dx.rs_strI); · (omega))
    | ((with_reducible apply Dx.rs_fmtI); · (omega))
    | ((with_reducible apply Dx.rs_fmtS); · ((first | exact Nat.le_of_ble_eq_true rfl | assumption | (refine Nat.le_trans (m := 100000) ?_ Dx.sz5; first | omega | (simp only [List.length_append, List.length_cons, List.length_nil, List.length_map, List.length_range, List.length_replicate, List.length_reverse, List.length_take, List.length_drop]; omega)))))
    | ((with_reducible apply Dx.rs_split); · (refine And.intro (by decide) ?_; (first | exact Nat.le_of_ble_eq_true rfl | assumption | (refine Nat.le_trans (m := 100000) ?_ Dx.sz5; first | omega | (simp only [List.length_append, List.length_cons, List.length_nil, List.length_map, List.length_range, List.length_replicate, List.length_reverse, List.length_take, List.length_drop]; omega)))))
    | ((with_reducible apply Dx.ss_app); · (rfl))
    | (with_reducible refine Dx.rs_tup ?_)
    | (with_reducible refine Dx.rs_lst ?_)
    | ((with_reducible refine And.intro (a := List.length _ ≤ PySem.sizeLine) ?_ ?_); · ((first | exact Nat.le_of_ble_eq_true rfl | assumption | (refine Nat.le_trans (m := 100000) ?_ Dx.sz5; first | omega | (simp only [List.length_append, List.length_cons, List.length_nil, List.length_map, List.length_range, List.length_replicate, List.length_reverse, List.length_take, List.length_drop]; omega)))))
    | ((with_reducible refine And.intro (a := List.length _ < PySem.sizeLine) ?_ ?_); · (first | exact Nat.le_of_ble_eq_true rfl | (refine Nat.lt_of_lt_of_le (m := 100000) ?_ Dx.sz5; first | omega | (simp only [List.length_append, List.length_cons, List.length_nil, List.length_map, List.length_range, List.length_replicate, List.length_reverse, List.length_take, List.length_drop]; omega))))
    | ((refine And.intro (fun h => absurd h ?_) (fun _ => ?_)); · (first | exact Bool.false_ne_true | (simp; done) | (simp; omega)))
    | ((refine And.intro (fun _ => ?_) (fun h => absurd h ?_)); rotate_left; · (first | exact (fun h => Bool.false_ne_true h.symm) | (simp; done) | (simp; omega)))))
local macro_rules
  | `(tactic| sizeOf_list_dec) => `(tactic| repeat (first
    | ((with_reducible apply Dx.rs_asSJ); · (first | omega | (simp only [List.length_append, List.length_cons, List.length_nil, List.length_map, List.length_range, List.length_replicate, List.length_reverse, List.length_take, List.length_drop]; omega)))
    | with_reducible refine Dx.rs_c ?_
    | with_reducible refine Dx.rs_op ?_
    | with_reducible refine Dx.rs_str ?_
    | with_reducible refine Dx.rs_asS ?_
    | with_reducible refine Dx.rs_un ?_
    | with_reducible refine Dx.rs_nil ?_
    | with_reducible refine Dx.rs_cons ?_
    | with_reducible refine Dx.rs_call ?_
    | with_reducible refine Dx.rs_T ?_
    | with_reducible refine Dx.rs_asB ?_
    | with_reducible refine Dx.rs_asI ?_
    | with_reducible refine Dx.rs_not ?_
    | with_reducible refine Dx.rs_and ?_
    | with_reducible refine Dx.rs_or ?_
    | with_reducible refine Dx.rs_andV ?_
    | with_reducible refine Dx.rs_orV ?_
    | with_reducible refine Dx.rs_notV ?_
    | with_reducible refine Dx.rs_chain ?_
    | with_reducible refine Dx.rs_noP ?_
    | with_reducible refine Dx.rs_part ?_
    | with_reducible refine Dx.rs_sl ?_
    | with_reducible refine Dx.rs_it ?_
    | with_reducible refine Dx.rs_its ?_
    | with_reducible refine Dx.rs_yes ?_
    | with_reducible refine Dx.rs_meth ?_
    | with_reducible refine Dx.rs_tru ?_
    | with_reducible refine Dx.rs_truB ?_
    | with_reducible refine Dx.rs_truI ?_
    | with_reducible refine Dx.rs_truL ?_
    | with_reducible refine Dx.rs_truT ?_
    | with_reducible refine Dx.rs_truN ?_
    | with_reducible refine Dx.rs_ifx ?_
    | with_reducible refine Dx.rs_add ?_
    | with_reducible refine Dx.rs_sub ?_
    | with_reducible refine Dx.rs_neg ?_
    | with_reducible refine Dx.rs_eqI ?_
    | with_reducible refine Dx.rs_neI ?_
    | with_reducible refine Dx.rs_eqS ?_
    | with_reducible refine Dx.rs_neS ?_
    | with_reducible refine Dx.rs_eqB ?_
    | with_reducible refine Dx.rs_neB ?_
    | with_reducible refine Dx.rs_lt ?_
    | with_reducible refine Dx.rs_le ?_
    | with_reducible refine Dx.rs_gt ?_
    | with_reducible refine Dx.rs_ge ?_
    | with_reducible refine Dx.rs_is ?_
    | with_reducible refine Dx.rs_isn ?_
    | with_reducible refine Dx.rs_inS ?_
    | with_reducible refine Dx.rs_ninS ?_
    | with_reducible refine Dx.rs_lenL ?_
    | with_reducible refine Dx.rs_lenF ?_
    | with_reducible refine Dx.rs_lenT ?_
    | with_reducible refine Dx.rs_int ?_
    | with_reducible refine Dx.rs_intB ?_
    | with_reducible refine Dx.rs_abs ?_
    | with_reducible refine Dx.rs_listL ?_
    | with_reducible refine Dx.rs_listT ?_
    | with_reducible refine Dx.rs_tupL ?_
    | with_reducible refine Dx.rs_tupT ?_
    | with_reducible refine Dx.rs_slL ?_
    | with_reducible refine Dx.rs_slO ?_
    | with_reducible refine Dx.rs_slT ?_
    | with_reducible refine Dx.rs_itsL ?_
    | with_reducible refine Dx.rs_itsT ?_
    | with_reducible refine Dx.rs_itsS ?_
    | with_reducible refine Dx.rs_enL ?_
    | with_reducible refine Dx.rs_enT ?_
    | with_reducible refine Dx.rs_enS ?_
    | with_reducible refine Dx.rs_ints ?_
    | with_reducible refine Dx.rs_sortI ?_
    | with_reducible refine Dx.rs_sum ?_
    | with_reducible refine Dx.rs_g2 ?_
    | with_reducible refine Dx.rs_all ?_
    | with_reducible refine Dx.rs_disp ?_
    | with_reducible refine Dx.rs_pnil ?_
    | with_reducible refine Dx.rs_pcons ?_
    | with_reducible refine Dx.rs_jnil ?_
    | with_reducible refine Dx.rs_jcons ?_
    | with_reducible refine Dx.rs_dJoin ?_
    | with_reducible refine Dx.rs_ord ?_
    | with_reducible refine Dx.rs_leS ?_
    | with_reducible refine Dx.rs_inKI ?_
    | with_reducible refine Dx.rs_inI ?_
    | with_reducible refine Dx.rs_ninI ?_
    | with_reducible refine Dx.rs_inTk ?_
    | with_reducible refine Dx.rs_getET ?_
    | with_reducible refine Dx.rs_dD0 ?_
    | with_reducible refine Dx.rs_listTk ?_
    | with_reducible refine Dx.rs_lenTk ?_
    | with_reducible refine Dx.rs_itTk ?_
    | with_reducible refine Dx.rs_end ?_
    | with_reducible refine Dx.rs_start ?_
    | with_reducible refine Dx.rs_star ?_
    | with_reducible refine Dx.rs_itemsL ?_
    | with_reducible refine Dx.rs_itemsT ?_
    | with_reducible refine Dx.rs_zipL ?_
    | with_reducible refine Dx.rs_zipS ?_
    | with_reducible refine Dx.rs_isi_non_bool ?_
    | with_reducible refine Dx.rs_isi_non_int ?_
    | with_reducible refine Dx.rs_isi_non_str ?_
    | with_reducible refine Dx.rs_isi_non_tuple ?_
    | with_reducible refine Dx.rs_isi_non_list ?_
    | with_reducible refine Dx.rs_isi_bl_bool ?_
    | with_reducible refine Dx.rs_isi_bl_int ?_
    | with_reducible refine Dx.rs_isi_bl_str ?_
    | with_reducible refine Dx.rs_isi_bl_tuple ?_
    | with_reducible refine Dx.rs_isi_bl_list ?_
    | with_reducible refine Dx.rs_isi_int_bool ?_
    | with_reducible refine Dx.rs_isi_int_int ?_
    | with_reducible refine Dx.rs_isi_int_str ?_
    | with_reducible refine Dx.rs_isi_int_tuple ?_
    | with_reducible refine Dx.rs_isi_int_list ?_
    | with_reducible refine Dx.rs_isi_str_bool ?_
    | with_reducible refine Dx.rs_isi_str_int ?_
    | with_reducible refine Dx.rs_isi_str_str ?_
    | with_reducible refine Dx.rs_isi_str_tuple ?_
    | with_reducible refine Dx.rs_isi_str_list ?_
    | with_reducible refine Dx.rs_isi_lst_bool ?_
    | with_reducible refine Dx.rs_isi_lst_int ?_
    | with_reducible refine Dx.rs_isi_lst_str ?_
    | with_reducible refine Dx.rs_isi_lst_tuple ?_
    | with_reducible refine Dx.rs_isi_lst_list ?_
    | with_reducible refine Dx.rs_isi_tup_bool ?_
    | with_reducible refine Dx.rs_isi_tup_int ?_
    | with_reducible refine Dx.rs_isi_tup_str ?_
    | with_reducible refine Dx.rs_isi_tup_tuple ?_
    | with_reducible refine Dx.rs_isi_tup_list ?_
    | with_reducible refine Dx.ss_nx ?_
    | with_reducible refine Dx.ss_bk ?_
    | with_reducible refine Dx.ss_ct ?_
    | with_reducible refine Dx.ss_seq ?_
    | with_reducible refine Dx.ss_set ?_
    | with_reducible refine Dx.ss_ret ?_
    | with_reducible refine Dx.ss_drop ?_
    | with_reducible refine Dx.ss_if ?_
    | with_reducible refine Dx.ss_par ?_
    | with_reducible refine Dx.ss_par3 ?_
    | with_reducible refine Dx.ss_aug ?_
    | ((with_reducible apply Dx.rs_var); · (rfl))
    | ((with_reducible apply Dx.rs_ixL); · (first | rfl | assumption))
    | ((with_reducible apply Dx.rs_ixF); · (first | rfl | assumption))
    | ((with_reducible apply Dx.rs_ixT); · (first | rfl | assumption))
    | ((with_reducible apply Dx.rs_fld); · (rfl))
    | ((with_reducible apply Dx.rs_isObj); · (decide))
    | ((with_reducible apply Dx.rs_mod); · (omega))
    | ((with_reducible apply Dx.rs_fdiv); · (omega))
    | ((with_reducible apply Dx.rs_addS); · ((first | exact Nat.le_of_ble_eq_true rfl | assumption | (refine Nat.le_trans (m := 100000) ?_ Dx.sz5; first | omega | (simp only [List.length_append, List.length_cons, List.length_nil, List.length_map, List.length_range, List.length_replicate, List.length_reverse, List.length_take, List.length_drop]; omega)))))
    | ((with_reducible apply Dx.rs_addT); · ((first | exact Nat.le_of_ble_eq_true rfl | assumption | (refine Nat.le_trans (m := 100000) ?_ Dx.sz5; first | omega | (simp only [List.length_append, List.length_cons, List.length_nil, List.length_map, List.length_range, List.length_replicate, List.length_reverse, List.length_take, List.length_drop]; omega)))))
    | ((with_reducible apply Dx.rs_addLL); · ((first | exact Nat.le_of_ble_eq_true rfl | assumption | (refine Nat.le_trans (m := 100000) ?_ Dx.sz5; first | omega | (simp only [List.length_append, List.length_cons, List.length_nil, List.length_map, List.length_range, List.length_replicate, List.length_reverse, List.length_take, List.length_drop]; omega)))))
    | ((with_reducible apply Dx.rs_addLO); · ((first | exact Nat.le_of_ble_eq_true rfl | assumption | (refine Nat.le_trans (m := 100000) ?_ Dx.sz5; first | omega | (simp only [List.length_append, List.length_cons, List.length_nil, List.length_map, List.length_range, List.length_replicate, List.length_reverse, List.length_take, List.length_drop]; omega)))))
    | ((with_reducible apply Dx.rs_lenS); · ((first | exact Nat.le_of_ble_eq_true rfl | assumption | (refine Nat.le_trans (m := 100000) ?_ Dx.sz5; first | omega | (simp only [List.length_append, List.length_cons, List.length_nil, List.length_map, List.length_range, List.length_replicate, List.length_reverse, List.length_take, List.length_drop]; omega)))))
    | ((with_reducible apply Dx.rs_slS); · ((first | exact Nat.le_of_ble_eq_true rfl | assumption | (refine Nat.le_trans (m := 100000) ?_ Dx.sz5; first | omega | (simp only [List.length_append, List.length_cons, List.length_nil, List.length_map, List.length_range, List.length_replicate, List.length_reverse, List.length_take, List.length_drop]; omega)))))
    | ((with_reducible apply Dx.rs_mul); · ((first | exact Or.inl (Dx.small_of (by omega) (by omega)) | exact Or.inr (Dx.small_of (by omega) (by omega)))))
    | ((with_reducible apply Dx.rs_strI); · (omega))
    | ((with_reducible apply Dx.rs_fmtI); · (omega))
    | ((with_reducible apply Dx.rs_fmtS); · ((first | exact Nat.le_of_ble_eq_true rfl | assumption | (refine Nat.le_trans (m := 100000) ?_ Dx.sz5; first | omega | (simp only [List.length_append, List.length_cons, List.length_nil, List.length_map, List.length_range, List.length_replicate, List.length_reverse, List.length_take, List.length_drop]; omega)))))
    | ((with_reducible apply Dx.rs_split); · (refine And.intro (by decide) ?_; (first | exact Nat.le_of_ble_eq_true rfl | assumption | (refine Nat.le_trans (m := 100000) ?_ Dx.sz5; first | omega | (simp only [List.length_append, List.length_cons, List.length_nil, List.length_map, List.length_range, List.length_replicate, List.length_reverse, List.length_take, List.length_drop]; omega)))))
    | ((with_reducible apply Dx.ss_app); · (rfl))
    | (with_reducible refine Dx.rs_tup ?_)
    | (with_reducible refine Dx.rs_lst ?_)
    | ((with_reducible refine And.intro (a := List.length _ ≤ PySem.sizeLine) ?_ ?_); · ((first | exact Nat.le_of_ble_eq_true rfl | assumption | (refine Nat.le_trans (m := 100000) ?_ Dx.sz5; first | omega | (simp only [List.length_append, List.length_cons, List.length_nil, List.length_map, List.length_range, List.length_replicate, List.length_reverse, List.length_take, List.length_drop]; omega)))))
    | ((with_reducible refine And.intro (a := List.length _ < PySem.sizeLine) ?_ ?_); · (first | exact Nat.le_of_ble_eq_true rfl | (refine Nat.lt_of_lt_of_le (m := 100000) ?_ Dx.sz5; first | omega | (simp only [List.length_append, List.length_cons, List.length_nil, List.length_map, List.length_range, List.length_replicate, List.length_reverse, List.length_take, List.length_drop]; omega))))
    | ((refine And.intro (fun h => absurd h ?_) (fun _ => ?_)); · (first | exact Bool.false_ne_true | (simp; done) | (simp; omega)))
    | ((refine And.intro (fun _ => ?_) (fun h => absurd h ?_)); rotate_left; · (first | exact (fun h => Bool.false_ne_true h.symm) | (simp; done) | (simp; omega)))))
section
theorem rs_pow10 {Q : D → Prop} {E : Str → List Str → List D → Prop} (q : Q (.int 1000000000000000000)) : Rs (powD (.int 10) (.int 18)) Q E := by
  unfold powD
  refine rs_guard ?_ q
  decide
theorem cell_sp (ns : List Int) (hl : ns.length ≤ 63) (k : Nat) (hk : k ≤ 1000) : Rs (F_l_cell [.fz (ns.map D.int), .int (k : Int)]) (fun d => ∃ z, d = .int z) nE := by
  refine rs_run ?_
  unfold Fb_l_cell
  array_get_dec
  refine ⟨fun _ => ?_, fun _ => ?_⟩
  · refine ss_ret (rs_op (rs_c (rs_c (rs_pow10 ⟨_, rfl⟩))))
  · array_get_dec
    refine ⟨fun h => ?_, fun h => ?_⟩
    · have h := of_decide_eq_true h
      rw [List.length_map] at h
      have hk : k < ns.length := by omega
      array_get_dec
      refine rs_ixF (d := .int ns[k]) (atI_nat (by rw [List.getElem?_map, List.getElem?_eq_getElem hk]; rfl)) ?_
      array_get_dec
      exact ⟨_, rfl⟩
    · array_get_dec
      refine rs_lc D.int (fun i => .int (i % 1000)) ns (rs_it (rs_var rfl rfl)) (Nat.le_trans (by omega) sz5) (fun i hi => ⟨_, rfl, rfl, ?_⟩) ?_
      · array_get_dec
        rfl
      · array_get_dec
        rw [show (ns.map fun i => D.int (i % 1000)) = (ns.map fun i => i % 1000).map D.int by rw [List.map_map]; rfl]
        refine rs_sum ?_
        array_get_dec
        exact ⟨_, rfl⟩
theorem row_sp (c : Int) (ls : List Int) (hl : ∀ l ∈ ls, 0 < l ∧ l < 4611686018427387904) (hn : ls.length < 10000) : Rs (F_l_row [.int c, iL ls]) (fun d => ∃ vs, d = iL vs ∧ Fit vs ls) nE := by
  refine rs_run ?_
  unfold Fb_l_row
  array_get_dec
  refine rs_pow10 ?_
  array_get_dec
  refine ss_rng ls.length (fun i r => i ≤ ls.length ∧ ∃ vs rest y z, Fit vs (ls.take i) ∧ r = [some (.int c), some (iL ls), some (iL vs), some (.int rest), y, z]) (by array_get_dec; rw [List.length_map]) (by omega) ⟨by omega, [], _, none, none, trivial, rfl⟩ ?_ ?_
  · rintro k r hk ⟨_, vs, rest, y, z, hf, rfl⟩
    have hlen := hf.len
    rw [List.length_take] at hlen
    have hg : ls[k]? = some ls[k] := List.getElem?_eq_getElem hk
    have hl := hl ls[k] (List.getElem_mem hk)
    rw [take_snoc hg]
    generalize ls[k] = l at hg hl
    have ix : ∀ {Q : D → Prop} {E : Str → List Str → List D → Prop}, Q (.int l) → Rs (ixD (iL ls) (.int (k : Int))) Q E := fun q => rs_ixL (atI_nat (by rw [List.getElem?_map, hg]; rfl)) q
    show Ss (Lp_l_row_1 [some (.int c), some (iL ls), some (iL vs), some (.int rest), some (.int (k : Int)), z]) _ _ _ _ _
    unfold Lp_l_row_1
    refine ss_if (rs_or (rs_T (rs_op (rs_var rfl (rs_c (rs_gt (rs_asB ?_)))))))
    refine rs_T (rs_op (rs_var rfl (rs_op (rs_c (rs_c (rs_pow10 (rs_eqI (rs_asB ⟨fun _ => ?_, fun _ => ?_⟩))))))))
    · array_get_dec
      refine ix ?_
      array_get_dec
      refine ix ?_
      array_get_dec
      refine ⟨by omega, vs ++ [rest % l], rest / l, some (.int (k : Int)), z, hf.snoc (Int.emod_nonneg _ (by omega)) (Int.emod_lt_of_pos _ hl.1), by simp [iL]⟩
    · array_get_dec
      refine ix ?_
      array_get_dec
      refine ⟨by omega, vs ++ [_], rest, some (.int (k : Int)), _, hf.snoc (Int.emod_nonneg _ (by omega)) (Int.emod_lt_of_pos _ hl.1), by simp [iL]; exact ⟨rfl, rfl⟩⟩
  · rintro r ⟨_, vs, rest, y, z, hf, rfl⟩
    rw [List.take_length] at hf
    array_get_dec
    exact ⟨vs, rfl, hf⟩
theorem row_of (c : Int) (ls : List Int) {Q : D → Prop} {E : Str → List Str → List D → Prop} (hl : ∀ l ∈ ls, 0 < l ∧ l < 4611686018427387904) (hn : ls.length < 10000) (q : ∀ vs, Fit vs ls → Q (iL vs)) : Rs (F_l_row [.int c, iL ls]) Q E := (row_sp c ls hl hn).imp fun d ⟨vs, e, h⟩ => by subst e; exact q vs h
theorem ix_row {vs : List Int} {ls : List Int} {k : Nat} {l : Int} {i : Int} {Q : D → Prop} {E : Str → List Str → List D → Prop} (h : Fit vs ls) (hk : ls[k]? = some l) (hi : i = (k : Int)) (q : ∀ v, vs[k]? = some v → 0 ≤ v → v < l → Q (.int v)) : Rs (ixD (iL vs) (.int i)) Q E := by
  obtain ⟨v, h1, h2, h3⟩ := h.get hk
  subst hi
  exact rs_ixL (atI_nat (by rw [List.getElem?_map, h1]; rfl)) (q v h1 h2 h3)
def wD (w : List Nat) : D := .str (Sg w)
end
section
inductive Tr where
  | tx (l : List Nat)
  | el (k m : List Nat) (ks : List Tr)
mutual
def sz : Tr → Nat
  | .tx _ => 1
  | .el _ _ ks => 1 + szs ks
def szs : List Tr → Nat
  | [] => 0
  | t :: ts => sz t + szs ts
end
def isTx : Tr → Bool
  | .tx _ => true
  | .el _ _ _ => false
/-- no two texts side by side -/
def NoAdj : List Tr → Prop
  | a :: b :: l => ¬ (isTx a = true ∧ isTx b = true) ∧ NoAdj (b :: l)
  | _ => True
theorem NoAdj.snoc : ∀ {ks : List Tr} {u : Tr}, NoAdj ks → (∀ ks' v, ks = ks' ++ [v] → isTx v = true → isTx u = false) → NoAdj (ks ++ [u])
  | [], _, _, _ => trivial
  | [a], u, _, h => ⟨fun z => (by have := h [] a rfl z.1; rw [this] at z; exact Bool.noConfusion z.2), trivial⟩
  | a :: b :: l, u, n, h => ⟨n.1, NoAdj.snoc (ks := b :: l) n.2 fun ks' v e => h (a :: ks') v (by rw [e]; rfl)⟩
/-- a tree of such kinds, marks and texts, no higher than n -/
inductive Wf (PK PM PT : List Nat → Prop) : Nat → Tr → Prop
  | tx {n : Nat} {l : List Nat} : PT l → Wf PK PM PT n (.tx l)
  | leaf {n : Nat} {k m : List Nat} : PK k → PM m → Wf PK PM PT n (.el k m [])
  | el {n : Nat} {k m : List Nat} {ks : List Tr} : PK k → PM m → NoAdj ks → (∀ u ∈ ks, Wf PK PM PT n u) → Wf PK PM PT (n + 1) (.el k m ks)
theorem Wf.up {PK PM PT : List Nat → Prop} {n : Nat} {t : Tr} (h : Wf PK PM PT n t) : ∀ {m : Nat}, n ≤ m → Wf PK PM PT m t := by
  induction h with
  | tx h => exact fun _ => .tx h
  | leaf h1 h2 => exact fun _ => .leaf h1 h2
  | el h1 h2 h3 _ ih => exact fun {m} hm => match m, hm with
    | m + 1, hm => .el h1 h2 h3 fun u hu => ih u hu (Nat.le_of_succ_le_succ hm)
end
section
theorem fit_drop2 : ∀ (n : Nat) {vs ls : List Int}, Fit vs ls → Fit (vs.drop n) (ls.drop n)
  | 0, vs, ls, h => h
  | n + 1, vs, [], h => by rw [h.nil]; trivial
  | n + 1, vs, l :: ls, h => by
    obtain ⟨v, us, rfl, _, _, h⟩ := h.cons
    exact fit_drop2 n h
theorem fit_take2 : ∀ (n : Nat) {vs ls : List Int}, Fit vs ls → Fit (vs.take n) (ls.take n)
  | 0, vs, ls, h => trivial
  | n + 1, vs, [], h => by rw [h.nil]; trivial
  | n + 1, vs, l :: ls, h => by
    obtain ⟨v, us, rfl, h1, h2, h⟩ := h.cons
    exact ⟨h1, h2, fit_take2 n h⟩
theorem fit_mem : ∀ {vs ls : List Int} {b : Int}, Fit vs ls → (∀ l ∈ ls, l = b) → ∀ v ∈ vs, 0 ≤ v ∧ v < b
  | vs, [], b, h, _, v, hv => by rw [h.nil] at hv; cases hv
  | vs, l :: ls, b, h, hb, v, hv => by
    obtain ⟨v0, us, rfl, h1, h2, h⟩ := h.cons
    rcases List.mem_cons.mp hv with rfl | hv
    · have := hb l (List.mem_cons_self ..); omega
    · exact fit_mem h (fun l hl => hb l (List.mem_cons_of_mem _ hl)) v hv
theorem word_sp {r : Rho} {its : Rho → Res (List D)} {a m : Nat} {A : List Nat} {ps : List Int} {Q : D → Prop} {E : Str → List Str → List D → Prop} (hA : A.length ≤ 1000) (hps : ∀ p ∈ ps, 0 ≤ p ∧ p < A.length) (hl : ps.length ≤ 1000) (hi : Rs (its r) (fun ds => ds = ps.map D.int) nE)
    (ha : r[a]? = some (some (wD A))) (hm : m < r.length) (hne : a ≠ m) (q : Q (wD (ps.map fun p => A.getD p.toNat 0))) : Rs (dStr joinD (dC (.str (Sg []))) (dLc its (tgN m) dYes (dOp ixD (dVar a) (dVar m)) [m]) r) Q E := by
  refine rs_str (rs_c (rs_asS ?_))
  refine rs_lc D.int (fun p => .str (Sg [A.getD p.toNat 0])) ps (hi.impE (fun _ z => z) fun _ _ _ z => z.elim) (Nat.le_trans (show _ ≤ 100000 by omega) sz5) (fun p hp => ⟨r.set m (some (.int p)), ?_, rfl, ?_⟩) ?_
  · show Res.ok ((r.set m none).set m (some (.int p))) = _
    rw [List.set_set]
  · have hp := hps p hp
    have hlt : p.toNat < A.length := by omega
    refine rs_op (rs_var (d := wD A) (by rw [List.getElem?_set_ne (Ne.symm hne)]; exact ha) (rs_var (d := .int p) (by rw [List.getElem?_set_self hm]) ?_))
    refine rs_ixS (n := A.getD p.toNat 0) ⟨Nat.le_trans (show _ ≤ 100000 by omega) sz5, ?_⟩ rfl
    exact at_pos hp.1 (by rw [List.getD_eq_getElem?_getD, List.getElem?_eq_getElem hlt]; rfl)
  · have e : (ps.map fun p => D.str (Sg [A.getD p.toNat 0])) = (ps.map fun p => A.getD p.toNat 0).map fun n => .str (Sg [n]) := by rw [List.map_map]; rfl
    rw [e]
    exact rs_joinC (by rw [List.length_map]; omega) q
theorem ixN_nat {n k : Nat} (h : k < n) : ixN n (k : Int) = some k := by
  unfold ixN
  rw [if_pos (by omega), if_pos (by omega), Int.toNat_natCast]
/-- a name -/
def Nm (w : List Nat) : Prop := 0 < w.length ∧ w.length ≤ 8 ∧ ∀ c ∈ w, 97 ≤ c ∧ c ≤ 122
theorem pick_mem {A : List Nat} {ps : List Int} (hps : ∀ p ∈ ps, 0 ≤ p ∧ p < A.length) : ∀ c ∈ ps.map fun p => A.getD p.toNat 0, c ∈ A := fun c hc => by
  obtain ⟨p, hp, rfl⟩ := List.mem_map.mp hc
  have := hps p hp
  have hlt : p.toNat < A.length := by omega
  rw [List.getD_eq_getElem?_getD, List.getElem?_eq_getElem hlt]
  exact List.getElem_mem hlt
theorem mem_set_of {P : List Nat → Prop} {ws : List (List Nat)} {k : Nat} {w : List Nat} (h : ∀ w ∈ ws, P w) (hw : P w) : ∀ x ∈ ws.set k w, P x := fun x hx => by
  rcases List.mem_or_eq_of_mem_set hx with h1 | h1
  · exact h x h1
  · rw [h1]; exact hw
def LN : List Int := [3, 8] ++ (List.replicate 13 [8, 26, 26, 26, 26, 26, 26, 26, 26]).flatten
theorem names_sp (c : Int) : Rs (F_l_names [.int c, .int 13]) (fun d => ∃ ws : List (List Nat), d = .lst (ws.map wD) ∧ ws.length = 13 ∧ ∀ w ∈ ws, Nm w) nE := by
  refine rs_run ?_
  unfold Fb_l_names
  show Ss (seqF _ _ [some (.int c), some (.int 13), none, none, none, none, none, none, none, none, none]) _ _ _ _ _
  refine ss_seq (ss_cut (fun r => ∃ A : List Nat, A.length = 26 ∧ (∀ c ∈ A, 97 ≤ c ∧ c ≤ 122) ∧ r = [some (.int c), some (.int 13), some (wD A), none, none, none, none, none, none, none, none]) (ss_set (rs_c ⟨_, rfl, by decide, rfl⟩)) ?_)
  rintro _ ⟨A, hA, hAl, rfl⟩
  refine ss_seq (ss_set (rs_call (rs_cons (rs_var rfl (rs_cons (rs_op (rs_lst (rs_cons (rs_c (rs_cons (rs_c (rs_nil ⟨Nat.le_of_ble_eq_true rfl, ?_⟩))))))))))))
  refine rs_op (rs_lst (rs_cons (rs_c (rs_cons (rs_c (rs_cons (rs_c (rs_cons (rs_c (rs_cons (rs_c (rs_cons (rs_c (rs_cons (rs_c (rs_cons (rs_c (rs_cons (rs_c (rs_nil ⟨Nat.le_of_ble_eq_true rfl, rs_var rfl ?_⟩))))))))))))))))))))
  refine rs_mulL ⟨by decide, by decide, Nat.le_of_ble_eq_true rfl⟩ ?_
  refine rs_addLL (Nat.le_of_ble_eq_true rfl) (rs_nil ?_)
  show Rs (F_l_row [.int c, iL LN]) _ _
  refine row_of c LN (by decide) (by decide) fun vs hf => ?_
  have hvl : vs.length = 119 := hf.len
  refine ss_seq (ss_set (rs_lst (rs_nil ⟨Nat.zero_le _, ?_⟩)))
  refine ss_seq (ss_rng 13 (fun k r => ∃ (ws : List (List Nat)) (x5 x6 x7 : Option D), r = [some (.int c), some (.int 13), some (wD A), some (iL vs), some (.lst (ws.map wD)), x5, x6, x7, none, none, none] ∧ ws.length = k ∧ ∀ w ∈ ws, Nm w) (rs_var rfl rfl) (by omega) ⟨[], none, none, none, rfl, rfl, fun w hw => by cases hw⟩ ?_ ?_)
  · rintro k r hk ⟨ws, x5, x6, x7, rfl, hws, hw⟩
    show Ss (Lp_l_names_1 [some (.int c), some (.int 13), some (wD A), some (iL vs), some (.lst (ws.map wD)), some (.int (k : Int)), x6, x7, none, none, none]) _ _ _ _ _
    unfold Lp_l_names_1
    have hpick : ∀ p ∈ (vs.take (9 * k + 11)).drop (9 * k + 3), 0 ≤ p ∧ p < (A.length : Int) := by
      rw [hA]
      refine fit_mem (ls := (LN.take (9 * k + 11)).drop (9 * k + 3)) (fit_drop2 _ (fit_take2 _ hf)) ?_
      have : ∀ k < 13, ∀ l ∈ (LN.take (9 * k + 11)).drop (9 * k + 3), l = ((26 : Nat) : Int) := by decide
      exact this k hk
    have hpl : ((vs.take (9 * k + 11)).drop (9 * k + 3)).length = 8 := by rw [List.length_drop, List.length_take]; omega
    refine ss_seq (ss_set (word_sp (A := A) (ps := (vs.take (9 * k + 11)).drop (9 * k + 3)) (by omega) hpick (by omega) ?_ rfl (by show 7 < 11; omega) (by decide) ?_))
    · refine rs_it (rs_sl (rs_var rfl (rs_part (rs_op (rs_op (rs_c (rs_var rfl (rs_mul (Or.inl (small_of (by omega) (by omega))) (rs_c (rs_add (rs_asI ?_)))))))))))
      refine rs_part (rs_op (rs_op (rs_c (rs_var rfl (rs_mul (Or.inl (small_of (by omega) (by omega))) (rs_c (rs_add (rs_asI ?_))))))))
      rw [show (9 * (k : Int) + 3) = ((9 * k + 3 : Nat) : Int) by omega, show (9 * (k : Int) + 11) = ((9 * k + 11 : Nat) : Int) by omega]
      refine rs_slL ?_
      rw [cut_mid, ← List.map_take, ← List.map_drop]
      rfl
    · refine ss_app rfl (rs_sl (rs_var rfl (rs_noP (rs_part (rs_op (rs_op (rs_var rfl (rs_op (rs_op (rs_c (rs_var rfl (rs_mul (Or.inl (small_of (by omega) (by omega))) (rs_c (rs_add ?_))))))))))))))
      refine ix_row (k := 9 * k + 2) (l := 8) hf (by have : ∀ k < 13, LN[9 * k + 2]? = some 8 := by decide
                                                     exact this k hk) (by omega) fun v _ h0 h1 => ?_
      refine rs_c (rs_add (rs_asI ?_))
      refine rs_slS (Nat.le_trans (show _ ≤ 100000 by rw [List.length_map]; omega) sz5) ⟨Nat.lt_of_lt_of_le (show (ws.map wD).length < 100000 by rw [List.length_map]; omega) sz5, ?_⟩
      refine ⟨ws ++ [(((vs.take (9 * k + 11)).drop (9 * k + 3)).map fun p => A.getD p.toNat 0).take (v.toNat + 1)], some (.int (k : Int)), some (wD (((vs.take (9 * k + 11)).drop (9 * k + 3)).map fun p => A.getD p.toNat 0)), x7, ?_, by rw [List.length_append, hws]; rfl, fun w hw' => ?_⟩
      · rw [show v + 1 = ((v.toNat + 1 : Nat) : Int) by omega, cut_take, List.map_append]
        rfl
      · rcases List.mem_append.mp hw' with hw' | hw'
        · exact hw w hw'
        · rw [List.mem_singleton.mp hw']
          refine ⟨by rw [List.length_take, List.length_map, hpl]; omega, by rw [List.length_take, List.length_map, hpl]; omega, fun c hc => hAl c (pick_mem hpick c (List.mem_of_mem_take hc))⟩
  · rintro r ⟨ws, x5, x6, x7, rfl, hws, hw⟩
    obtain ⟨w0, ws', rfl⟩ : ∃ w0 ws', ws = w0 :: ws' := by
      cases ws with
      | nil => cases hws
      | cons w ws => exact ⟨_, _, rfl⟩
    obtain ⟨hw1, hw2, hw3⟩ := hw w0 (List.mem_cons_self ..)
    refine ss_seq (ss_set (rs_op (rs_var rfl (rs_c (rs_ixL (d := wD w0) (atI_nat (j := 0) rfl) ?_)))))
    refine ss_seq (ss_set (rs_op (rs_call (rs_cons (rs_op (rs_var rfl (rs_c ?_)))))))
    refine ix_row (k := 1) (l := 8) hf (by decide) rfl fun v1 _ h10 h11 => ?_
    refine rs_nil (rs_int (rs_call (rs_cons (rs_var rfl (rs_nil (rs_lenS (Nat.le_trans (show _ ≤ 100000 by omega) sz5) (rs_mod (by omega) ?_)))))))
    have hat0 : 0 ≤ v1 % (w0.length : Int) := Int.emod_nonneg _ (by omega)
    have hat1 : v1 % (w0.length : Int) < w0.length := Int.emod_lt_of_pos _ (by omega)
    generalize v1 % (w0.length : Int) = at0 at hat0 hat1 ⊢
    obtain ⟨n0, rfl⟩ := Int.eq_ofNat_of_zero_le hat0
    have hn0 : n0 < w0.length := by omega
    refine ss_seq (ss_rng 13 (fun k r => ∃ (ws : List (List Nat)) (x5 x6 x7 x10 : Option D), r = [some (.int c), some (.int 13), some (wD A), some (iL vs), some (.lst (ws.map wD)), x5, x6, x7, some (wD w0), some (.int (n0 : Int)), x10] ∧ ws.length = 13 ∧ ∀ w ∈ ws, Nm w) (rs_var rfl rfl) (by omega) ⟨w0 :: ws', _, _, _, none, rfl, hws, hw⟩ ?_ ?_)
    · rintro k r hk ⟨ws, x5, x6, x7, x10, rfl, hws, hwn⟩
      show Ss (Lp_l_names_2 [some (.int c), some (.int 13), some (wD A), some (iL vs), some (.lst (ws.map wD)), some (.int (k : Int)), x6, x7, some (wD w0), some (.int (n0 : Int)), x10]) _ _ _ _ _
      unfold Lp_l_names_2
      have hix : ∀ {α : Type} (l : List α), l.length = 13 → ixN l.length (k : Int) = some k := fun l hl => by rw [hl]; exact ixN_nat hk
      refine ss_seq (ss_cut (fun r => ∃ (ws : List (List Nat)) (x10 : Option D), r = [some (.int c), some (.int 13), some (wD A), some (iL vs), some (.lst (ws.map wD)), some (.int (k : Int)), x6, x7, some (wD w0), some (.int (n0 : Int)), x10] ∧ ws.length = 13 ∧ ∀ w ∈ ws, Nm w) ?_ ?_)
      · refine ss_if (rs_T (rs_op (rs_op (rs_var rfl (rs_c ?_)))))
        refine ix_row (k := 0) (l := 3) hf (by decide) rfl fun v0 _ h00 h01 => ?_
        refine rs_c (rs_eqI (rs_asB ⟨fun _ => ?_, fun _ => ss_nx ⟨ws, x10, rfl, hws, hwn⟩⟩))
        refine ss_seq (ss_set (rs_op (rs_var rfl (rs_op (rs_call (rs_cons (rs_op (rs_op (rs_var rfl (rs_c ?_))))))))))
        refine ix_row (k := 3) (l := 26) hf (by decide) rfl fun v3 _ h30 h31 => ?_
        refine rs_op (rs_c (rs_var rfl (rs_mul (Or.inl (small_of (by omega) (by omega))) (rs_add (rs_nil (rs_int (rs_c (rs_mod (by omega) ?_))))))))
        have hm0 : 0 ≤ (v3 + 5 * (k : Int)) % 26 := Int.emod_nonneg _ (by omega)
        have hm1 : (v3 + 5 * (k : Int)) % 26 < 26 := Int.emod_lt_of_pos _ (by omega)
        generalize (v3 + 5 * (k : Int)) % 26 = z at hm0 hm1 ⊢
        have hz : z.toNat < A.length := by omega
        refine rs_ixS (n := A[z.toNat]) ⟨Nat.le_trans (show _ ≤ 100000 by omega) sz5, ?_⟩ ?_
        · exact at_pos hm0 (List.getElem?_eq_getElem hz)
        refine ss_sto (n := k) (k := (k : Int)) (ds := ws.map wD) (rs_op (rs_op (rs_sl (rs_var rfl (rs_noP (rs_part (rs_var rfl (rs_asI ?_))))))))
        refine rs_slS (Nat.le_trans (show _ ≤ 100000 by omega) sz5) (rs_var rfl ?_)
        rw [cut_take]
        have c1 : (w0.take n0).length ≤ w0.length := by rw [List.length_take]; omega
        refine rs_addS (Nat.le_trans (show _ ≤ 100000 by rw [List.length_singleton]; omega) sz5) ?_
        refine rs_sl (rs_var rfl (rs_part (rs_op (rs_var rfl (rs_c (rs_add (rs_asI (rs_noP ?_))))))))
        refine rs_slS (Nat.le_trans (show _ ≤ 100000 by omega) sz5) ?_
        rw [show ((n0 : Int) + 1) = ((n0 + 1 : Nat) : Int) from by omega, cut_drop]
        have c2 : (w0.drop (n0 + 1)).length ≤ w0.length := by rw [List.length_drop]; omega
        have hnm : Nm (w0.take n0 ++ [A[z.toNat]] ++ w0.drop (n0 + 1)) := by
          refine ⟨by simp; omega, by simp; omega, fun c hc => ?_⟩
          rcases List.mem_append.mp hc with hc | hc
          · rcases List.mem_append.mp hc with hc | hc
            · exact hw3 c (List.mem_of_mem_take hc)
            · rw [List.mem_singleton.mp hc]; exact hAl _ (List.getElem_mem hz)
          · exact hw3 c (List.mem_of_mem_drop hc)
        refine rs_addS (Nat.le_trans (show _ ≤ 100000 by rw [List.length_append, List.length_singleton]; omega) sz5) ?_
        refine ⟨rfl, rs_var rfl ⟨rfl, hix _ (by rw [List.length_map]; exact hws), ws.set k (w0.take n0 ++ [A[z.toNat]] ++ w0.drop (n0 + 1)), some (wD [A[z.toNat]]), ?_, by rw [List.length_set]; exact hws, mem_set_of hwn hnm⟩⟩
        rw [List.map_set]
        rfl
      rintro _ ⟨ws, x10, rfl, hws, hwn⟩
      refine ss_if (rs_T (rs_op (rs_op (rs_var rfl (rs_c ?_)))))
      refine ix_row (k := 0) (l := 3) hf (by decide) rfl fun v0 _ h00 h01 => ?_
      refine rs_c (rs_eqI (rs_asB ⟨fun _ => ?_, fun _ => ss_nx ⟨ws, _, _, _, x10, rfl, hws, hwn⟩⟩))
      refine ss_sto (n := k) (k := (k : Int)) (ds := ws.map wD) (rs_sl (rs_op (rs_var rfl (rs_c ?_))))
      refine rs_mulS ⟨by decide, by decide, Nat.le_trans (show w0.length * 8 ≤ 100000 by omega) sz5⟩ ?_
      have hfl : (List.replicate (8 : Int).toNat w0).flatten.length = 8 * w0.length := by
        rw [show (8 : Int).toNat = 8 from rfl, List.length_flatten, List.map_replicate, List.sum_replicate_nat]
      have hfm : ∀ c ∈ (List.replicate (8 : Int).toNat w0).flatten, 97 ≤ c ∧ c ≤ 122 := fun c hc => by
        obtain ⟨l, hl, h⟩ := List.mem_flatten.mp hc
        rw [(List.mem_replicate.mp hl).2] at h
        exact hw3 c h
      generalize (List.replicate (8 : Int).toNat w0).flatten = ww at hfl hfm ⊢
      refine rs_noP (rs_part (rs_op (rs_c (rs_op (rs_call (rs_cons (rs_var rfl (rs_nil (rs_int (rs_c (rs_mod (by omega) (rs_add (rs_asI ?_)))))))))))))
      refine rs_slS (Nat.le_trans (show _ ≤ 100000 by omega) sz5) ?_
      have hm0 : 0 ≤ (k : Int) % 8 := Int.emod_nonneg _ (by omega)
      have hm1 : (k : Int) % 8 < 8 := Int.emod_lt_of_pos _ (by omega)
      rw [show (1 + (k : Int) % 8) = ((1 + ((k : Int) % 8).toNat : Nat) : Int) by omega, cut_take]
      have hnm : Nm (ww.take (1 + ((k : Int) % 8).toNat)) := ⟨by rw [List.length_take]; omega, by rw [List.length_take]; omega, fun c hc => hfm c (List.mem_of_mem_take hc)⟩
      generalize ww.take (1 + ((k : Int) % 8).toNat) = p1 at hnm ⊢
      refine ⟨rfl, rs_var rfl ⟨rfl, hix _ (by rw [List.length_map]; exact hws), ws.set k p1, some (.int (k : Int)), x6, x7, x10, ?_, by rw [List.length_set]; exact hws, mem_set_of hwn hnm⟩⟩
      rw [List.map_set]
      rfl
    · rintro r ⟨ws, x5, x6, x7, x10, rfl, hws, hwn⟩
      exact ss_ret (rs_var rfl ⟨ws, rfl, hws, hwn⟩)
end
section
theorem nodup_le {α : Type} [DecidableEq α] : ∀ {l K : List α}, l.Nodup → (∀ x ∈ l, x ∈ K) → l.length ≤ K.length
  | [], K, _, _ => Nat.zero_le _
  | x :: l, K, h, hs => by
    have hx : x ∈ K := hs x (List.mem_cons_self ..)
    obtain ⟨h1, h2⟩ := List.nodup_cons.mp h
    have := nodup_le (l := l) (K := K.erase x) h2 fun y hy => (List.mem_erase_of_ne (fun e => h1 (by rw [← e]; exact hy))).mpr (hs y (List.mem_cons_of_mem _ hy))
    rw [List.length_erase_of_mem hx] at this
    have := List.length_pos_of_mem hx
    rw [List.length_cons]; omega
/-- one letter tried -/
def kst (K : List (List Nat)) (w : List Nat) (c : Nat) : List Nat := if w ∈ K then w.take 7 ++ [c] else w
theorem kst_in {K : List (List Nat)} {w : List Nat} {c : Nat} (h : w ∈ K) : kst K w c = w.take 7 ++ [c] := if_pos h
theorem kst_not {K : List (List Nat)} {w : List Nat} {c : Nat} (h : w ∉ K) : kst K w c = w := if_neg h
theorem kst_stay {K : List (List Nat)} {w : List Nat} (h : w ∉ K) : ∀ ls : List Nat, ls.foldl (kst K) w = w
  | [] => rfl
  | c :: ls => by rw [List.foldl_cons, kst_not h]; exact kst_stay h ls
theorem kst_was {K : List (List Nat)} {w : List Nat} {ls : List Nat} (h : ls.foldl (kst K) w ∈ K) : w ∈ K := by
  apply Classical.byContradiction
  intro q
  rw [kst_stay q] at h
  exact q h
theorem kst_len {K : List (List Nat)} : ∀ {ls : List Nat} {w : List Nat} {n : Nat}, n ≤ w.length → ls.foldl (kst K) w ∈ K → min (n + ls.length) 8 ≤ (ls.foldl (kst K) w).length ∨ ls = []
  | [], _, _, _, _ => .inr rfl
  | c :: ls, w, n, hn, h => by
    left
    have hw := kst_was h
    rw [List.foldl_cons, kst_in hw] at h ⊢
    have hl : min (n + 1) 8 ≤ (w.take 7 ++ [c]).length := by simp; omega
    rcases kst_len hl h with q | q
    · rw [List.length_cons]; omega
    · subst q; simp only [List.foldl_nil, List.length_cons, List.length_nil] at *; omega
theorem kst_all {K : List (List Nat)} : ∀ {ls : List Nat} {w : List Nat}, 7 ≤ w.length → ls.foldl (kst K) w ∈ K → ∀ c ∈ ls, w.take 7 ++ [c] ∈ K
  | [], _, _, _, _, hc => by cases hc
  | c :: ls, w, hn, h, c', hc => by
    have hw := kst_was h
    rw [List.foldl_cons, kst_in hw] at h
    rcases List.mem_cons.mp hc with rfl | hc
    · exact kst_was h
    · have := kst_all (w := w.take 7 ++ [c]) (by simp; omega) h c' hc
      rw [List.take_append_of_le_length (by rw [List.length_take]; omega), List.take_take] at this
      exact this
theorem kst_free {K : List (List Nat)} {l1 l2 : List Nat} {w : List Nat} (h1 : 7 ≤ l1.length) (hd : l2.Nodup) (hl : K.length < l2.length) : (l1 ++ l2).foldl (kst K) w ∉ K := by
  intro h
  rw [List.foldl_append] at h
  have hu := kst_was h
  have h7 : 7 ≤ (l1.foldl (kst K) w).length := by
    rcases kst_len (Nat.zero_le _) hu with q | q
    · omega
    · subst q; cases h1
  have hall := kst_all h7 h
  generalize (l1.foldl (kst K) w).take 7 = pre at hall
  have hn : (l2.map fun c => pre ++ [c]).Nodup := by
    refine List.Pairwise.map _ (fun a b hab e => hab ?_) hd
    have := List.append_cancel_left e
    exact (List.cons.inj this).1
  have := nodup_le hn fun x hx => by
    obtain ⟨c, hc, rfl⟩ := List.mem_map.mp hx
    exact hall c hc
  rw [List.length_map] at this
  omega
end
section
theorem flatDs_w (ws : List (List Nat)) : flatDs (ws.map wD) = some (ws.map fun w => V.str (Sg w)) := by
  induction ws with
  | nil => rfl
  | cons w ws ih => rw [List.map_cons, flatDs, ih]; rfl
theorem inV_w (a : List Nat) (ws : List (List Nat)) : inV (V.str (Sg a)) (ws.map fun w => V.str (Sg w)) = decide (a ∈ ws) := by
  have s : ∀ x y : List Nat, eqV (V.str (Sg x)) (V.str (Sg y)) = decide (x = y) := fun x y => by
    by_cases h : x = y
    · subst h; simp [eqV]
    · simp [eqV, h]
  induction ws with
  | nil => rfl
  | cons w ws ih =>
    unfold inV at ih ⊢
    rw [List.map_cons, List.any_cons, ih]
    rw [show ∀ x y : List Nat, decide (x ∈ y :: ws) = (decide (x = y) || decide (x ∈ ws)) from fun x y => by by_cases h1 : x = y <;> by_cases h2 : x ∈ ws <;> simp [h1, h2]]
    congr 1
    rw [s]
    by_cases h : a = w
    · subst h; rfl
    · rw [decide_eq_false h, decide_eq_false (Ne.symm h)]
theorem rs_inWT {a : List Nat} (ws : List (List Nat)) {Q : D → Prop} {E : Str → List Str → List D → Prop} (q : Q (.bl (decide (a ∈ ws)))) : Rs (inD (wD a) (.tup (ws.map wD))) Q E := by
  show Rs ((inTup (wD a) (ws.map wD)).bind _) Q E
  unfold inTup inFlat
  rw [flatDs_w]
  show Q (.bl (inV (V.str (Sg a)) (ws.map fun w => V.str (Sg w))))
  rw [inV_w]
  exact q
theorem rs_inWL {a : List Nat} (ws : List (List Nat)) {Q : D → Prop} {E : Str → List Str → List D → Prop} (q : Q (.bl (decide (a ∈ ws)))) : Rs (inD (wD a) (.lst (ws.map wD))) Q E := by
  show Rs ((inLst (wD a) (ws.map wD)).bind _) Q E
  unfold inLst inFlat
  rw [flatDs_w]
  show Q (.bl (inV (V.str (Sg a)) (ws.map fun w => V.str (Sg w))))
  rw [inV_w]
  exact q
def ABC : List Nat := [97, 98, 99, 100, 101, 102, 103, 104, 105, 106, 107, 108, 109, 110, 111, 112, 113, 114, 115, 116, 117, 118, 119, 120, 121, 122]
theorem abc_in : ∀ c ∈ ABC, 97 ≤ c ∧ c ≤ 122 := by decide
theorem kst_nm {K : List (List Nat)} {w : List Nat} {c : Nat} (h : Nm w) (hc : 97 ≤ c ∧ c ≤ 122) : Nm (kst K w c) := by
  unfold kst
  split
  · obtain ⟨_, _, h3⟩ := h
    refine ⟨by simp, by simp; omega, fun x hx => ?_⟩
    rcases List.mem_append.mp hx with hx | hx
    · exact h3 x (List.mem_of_mem_take hx)
    · rw [List.mem_singleton.mp hx]; exact hc
  · exact h
theorem kst_nms {K : List (List Nat)} : ∀ {ls : List Nat} {w : List Nat}, Nm w → (∀ c ∈ ls, 97 ≤ c ∧ c ≤ 122) → Nm (ls.foldl (kst K) w)
  | [], _, h, _ => h
  | c :: ls, w, h, hl => kst_nms (ls := ls) (kst_nm h (hl c (List.mem_cons_self ..))) fun x hx => hl x (List.mem_cons_of_mem _ hx)
def KS (c : Int) (K : List (List Nat)) (x3 x4 : Option D) : Rho := [some (.int c), some (.int 13), some (.lst (K.map wD)), x3, x4]
theorem letters_sp (c : Int) (K : List (List Nat)) (w : List Nat) (x4 : Option D) (hw : Nm w) : Ss (forF (dIt itemsS (dC (.str (Sg ABC)))) (tgN 4) Lp_l_kinds_1 (KS c K (some (wD w)) x4)) (fun r => ∃ x4, r = KS c K (some (wD (ABC.foldl (kst K) w))) x4) (fun _ => False) (fun _ => False) (fun _ => False) nE' := by
  refine ss_for (fun i r => ∃ x4, r = KS c K (some (wD ((ABC.take i).foldl (kst K) w))) x4) (rs_it (rs_c (rs_itsS ⟨⟨x4, rfl⟩, fun i d r hi hr => ?_, fun r h => ?_⟩)))
  · obtain ⟨x4, rfl⟩ := hr
    rw [List.getElem?_map] at hi
    cases hn : ABC[i]? with
    | none => rw [hn] at hi; cases hi
    | some n =>
      rw [hn] at hi
      cases hi
      refine ⟨KS c K (some (wD ((ABC.take i).foldl (kst K) w))) (some (.str (Sg [n]))), rfl, ?_⟩
      have hnm : Nm ((ABC.take i).foldl (kst K) w) := kst_nms hw fun x hx => abc_in x (List.mem_of_mem_take hx)
      rw [take_snoc hn, List.foldl_append]
      generalize (ABC.take i).foldl (kst K) w = u at hnm
      have hu := hnm.2.1
      unfold Lp_l_kinds_1
      refine ss_if (rs_T (rs_op (rs_var rfl (rs_var rfl (rs_inWL K (rs_asB ⟨fun z => ?_, fun z => ss_nx ?_⟩))))))
      · show Ss _ (fun r => ∃ x4, r = KS c K (some (wD (kst K u n))) x4) _ _ _ _
        rw [kst_in (of_decide_eq_true z)]
        refine ss_set (rs_op (rs_sl (rs_var rfl (rs_noP (rs_part (rs_c (rs_asI (rs_slS (Nat.le_trans (show _ ≤ 100000 by omega) sz5) (rs_var rfl (rs_addS (Nat.le_trans (show _ ≤ 100000 from ?_) sz5) ?_))))))))))
        · rw [show (7 : Int) = ((7 : Nat) : Int) from rfl, cut_take, List.length_take]
          show _ + 1 ≤ _
          omega
        · rw [show (7 : Int) = ((7 : Nat) : Int) from rfl, cut_take]
          exact ⟨_, rfl⟩
      · show ∃ x4, _ = KS c K (some (wD (kst K u n))) x4
        rw [kst_not (of_decide_eq_false z)]
        exact ⟨_, rfl⟩
  · rw [List.length_map, List.take_length] at h
    exact h
theorem kinds_sp (c : Int) : Rs (F_l_kinds [.int c, .int 13]) (fun d => ∃ ws : List (List Nat), d = .lst (ws.map wD) ∧ ws.length = 13 ∧ (∀ w ∈ ws, Nm w) ∧ ws.Nodup) nE := by
  refine rs_run ?_
  unfold Fb_l_kinds
  refine ss_seq (ss_set (rs_lst (rs_nil ⟨Nat.zero_le _, ?_⟩)))
  obtain ⟨_, en, ws, rfl, hwl, hwn⟩ := (names_sp c).get
  show Ss (seqF _ _ (KS c [] none none)) _ _ _ _ _
  refine ss_seq (ss_each wD ws (fun i r => ∃ K x3 x4, r = KS c K x3 x4 ∧ K.length = i ∧ (∀ w ∈ K, Nm w) ∧ K.Nodup) (rs_call (rs_cons (rs_var rfl (rs_cons (rs_var rfl (rs_nil (Rs.of en rfl))))))) ⟨[], none, none, rfl, rfl, fun w hw => (by cases hw), List.nodup_nil⟩ ?_ ?_)
  · rintro i w r hw ⟨K, x3, x4, rfl, hK, hKn, hKd⟩
    have hi : i < ws.length := (List.getElem?_eq_some_iff.mp hw).1
    have hwm := hwn w (List.mem_of_getElem? hw)
    unfold Lp_l_kinds_2
    show Ss (seqF _ _ (KS c K (some (wD w)) x4)) _ _ _ _ _
    refine ss_seq ((letters_sp c K w x4 hwm).imp ?_ (fun _ z => z.elim) (fun _ z => z.elim) (fun _ z => z.elim) fun _ _ _ _ z => z)
    rintro _ ⟨x4, rfl⟩
    have hfree : ABC.foldl (kst K) w ∉ K := kst_free (K := K) (l1 := ABC.take 7) (l2 := ABC.drop 7) (by decide) (by decide) (by show _ < 19; omega)
    have hnm : Nm (ABC.foldl (kst K) w) := kst_nms hwm abc_in
    generalize ABC.foldl (kst K) w = u at hfree hnm
    refine ss_app (ds := K.map wD) rfl (rs_var (d := wD u) rfl ⟨Nat.lt_of_lt_of_le (show _ < 100000 by rw [List.length_map]; omega) sz5, K ++ [u], some (wD u), x4, ?_, by rw [List.length_append, hK]; rfl, fun x hx => ?_, ?_⟩)
    · unfold KS
      rw [List.map_append]
      rfl
    · rcases List.mem_append.mp hx with hx | hx
      · exact hKn x hx
      · rw [List.mem_singleton.mp hx]; exact hnm
    · refine List.nodup_append.mpr ⟨hKd, by simp, fun a ha b hb e => ?_⟩
      rw [List.mem_singleton.mp hb] at e
      rw [e] at ha
      exact hfree ha
  · rintro r ⟨K, x3, x4, rfl, hK, hKn, hKd⟩
    exact ss_ret (rs_var (d := .lst (K.map wD)) rfl ⟨K, rfl, by omega, hKn, hKd⟩)
end
section
abbrev wRt : List Nat := [114, 111, 111, 116]
abbrev wBlock : List Nat := [98, 108, 111, 99, 107]
abbrev wHead : List Nat := [104, 101, 97, 100]
abbrev wSpan : List Nat := [115, 112, 97, 110]
abbrev wNote : List Nat := [110, 111, 116, 101]
abbrev wFig : List Nat := [102, 105, 103, 117, 114, 101]
abbrev wRef : List Nat := [114, 101, 102]
abbrev ROLES : List (List Nat) := [wRt, wBlock, wHead, wSpan, wNote, wFig, wRef]
def mayB (a b : List Nat) : Bool := if a = wRt then (decide (b = wBlock) || decide (b = wHead)) else if a = wBlock then decide (b ∈ [wSpan, wNote, wFig, wRef]) else if a = wHead ∨ a = wSpan then (decide (b = wSpan) || decide (b = wRef)) else ((decide (a = wNote) || decide (a = wFig)) && decide (b = wSpan))
theorem may_eq (a b : List Nat) : F_l_may [wD a, wD b] = .ok (.bl (mayB a b)) := Rs.eq (by
  show Rs (F_l_may [.str (Sg a), .str (Sg b)]) _ _
  refine rs_run ?_
  unfold Fb_l_may
  refine ss_seq (ss_if (rs_T (rs_op (rs_var rfl (rs_c (rs_eqS (rs_asB ⟨fun z => ?_, fun z => ss_nx ?_⟩)))))))
  · have z := of_decide_eq_true z
    array_get_dec
    unfold mayB
    rw [if_pos z]
  have z0 := of_decide_eq_false z
  refine ss_seq (ss_if (rs_T (rs_op (rs_var rfl (rs_c (rs_eqS (rs_asB ⟨fun z => ?_, fun z => ss_nx ?_⟩)))))))
  · have z := of_decide_eq_true z
    refine ss_ret (rs_op (rs_var (d := wD b) rfl (rs_lst (rs_cons (rs_c (rs_cons (rs_c (rs_cons (rs_c (rs_cons (rs_c (rs_nil ⟨Nat.le_of_ble_eq_true rfl, rs_inWL [wSpan, wNote, wFig, wRef] ?_⟩))))))))))))
    unfold mayB
    rw [if_neg z0, if_pos z]
  have z1 := of_decide_eq_false z
  refine ss_seq (ss_if (rs_or (rs_T (rs_op (rs_var rfl (rs_c (rs_eqS (rs_asB (rs_T (rs_op (rs_var rfl (rs_c (rs_eqS (rs_asB ⟨fun z => ?_, fun z => ss_nx ?_⟩))))))))))))))
  · have z : a = wHead ∨ a = wSpan := by simpa using z
    array_get_dec
    unfold mayB
    rw [if_neg z0, if_neg z1, if_pos z]
  · have z : ¬ (a = wHead ∨ a = wSpan) := by simpa using z
    array_get_dec
    unfold mayB
    rw [if_neg z0, if_neg z1, if_neg z])
structure GR where
  k : List Nat
  ro : List Nat
  inn : List (List Nat)
  deriving DecidableEq
def rowD (r : GR) : D := .tup [wD r.k, wD r.ro, .tup (r.inn.map wD)]
def GrOk (top : List Nat) (R : List GR) : Prop := (R.map (·.k)).Nodup ∧ (∃ r ∈ R, r.k = top ∧ r.ro = wRt) ∧ R.length ≤ 12 ∧ ∀ r ∈ R, r.ro ∈ ROLES ∧ r.inn.length ≤ 12 ∧ ∀ w ∈ r.inn, ∃ r' ∈ R, r'.k = w ∧ mayB r.ro r'.ro = true
def LGr (m : Nat) : List Int := [(m : Int), 2] ++ (List.replicate m [9, 4096, (m : Int)]).flatten
theorem LGr_pos : ∀ m < 13, 0 < m → ∀ l ∈ LGr m, 0 < l ∧ l < 4611686018427387904 := by decide
theorem LGr_len : ∀ m < 13, (LGr m).length < 10000 := by decide
theorem LGr_a : ∀ m < 13, ∀ k < m, (LGr m)[3 * k + 2]? = some 9 := by decide
theorem LGr_b : ∀ m < 13, ∀ k < m, (LGr m)[3 * k + 3]? = some 4096 := by decide
theorem LGr_c : ∀ m < 13, ∀ k < m, (LGr m)[3 * k + 4]? = some (m : Int) := by decide
abbrev MENU : List (List Nat) := [wBlock, wSpan, wHead, wNote, wFig, wRef, wBlock, wSpan, wRt]
theorem menu_in : ∀ w ∈ MENU, w ∈ ROLES := by decide
def GS (c : Int) (ks : List (List Nat)) (vs : List Int) (rs : List (List Nat)) (x6 x7 x8 x9 x10 x11 : Option D) : Rho := [some (.int c), some (.lst (ks.map wD)), some (.int (ks.length : Int)), some (iL vs), some (.lst (MENU.map wD)), some (.lst (rs.map wD)), x6, x7, x8, x9, x10, x11]
def InOk (ks rs : List (List Nat)) (ro : List Nat) (inn : List (List Nat)) : Prop := ∀ w ∈ inn, ∃ (j : Nat) (ro' : List Nat), ks[j]? = some w ∧ rs[j]? = some ro' ∧ mayB ro ro' = true
def RowsOk (ks rs : List (List Nat)) (R : List GR) : Prop := ∀ (j : Nat) (r : GR), R[j]? = some r → ks[j]? = some r.k ∧ rs[j]? = some r.ro ∧ r.inn.length ≤ 12 ∧ InOk ks rs r.ro r.inn
theorem inner_sp (c : Int) (ks : List (List Nat)) (h2 : 1 ≤ ks.length) (h10 : ks.length ≤ 12) {vs : List Int} (hf : Fit vs (LGr ks.length)) {rs : List (List Nat)} (hrs : rs.length = ks.length) (k : Nat) (hk : k < ks.length) {ro : List Nat} (hro : rs[k]? = some ro) (x7 x10 x11 : Option D) (z : Int) :
    Ss (forF (dIts rng1 (dCons (dVar 2) dNil)) (tgN 10) Lp_l_grammar_1 (GS c ks vs rs (some (.int (k : Int))) x7 (some (.int z)) (some (.lst [])) x10 x11)) (fun r => ∃ (inn : List (List Nat)) (z : Int) (x10 x11 : Option D), r = GS c ks vs rs (some (.int (k : Int))) x7 (some (.int z)) (some (.lst (inn.map wD))) x10 x11 ∧ inn.length ≤ 12 ∧ InOk ks rs ro inn) (fun _ => False) (fun _ => False) (fun _ => False) nE' := by
  refine ss_rng ks.length (fun j r => ∃ (inn : List (List Nat)) (z : Int) (x10 x11 : Option D), r = GS c ks vs rs (some (.int (k : Int))) x7 (some (.int z)) (some (.lst (inn.map wD))) x10 x11 ∧ inn.length ≤ j ∧ InOk ks rs ro inn) (rs_var rfl rfl) (by omega) ⟨[], z, x10, x11, rfl, Nat.le_refl _, fun w hw => (by cases hw)⟩ ?_ ?_
  · rintro j r hj ⟨inn, z, x10, x11, rfl, hl, hin⟩
    show Ss (Lp_l_grammar_1 (GS c ks vs rs (some (.int (k : Int))) x7 (some (.int z)) (some (.lst (inn.map wD))) (some (.int (j : Int))) x11)) _ _ _ _ _
    unfold Lp_l_grammar_1
    refine ss_seq (ss_set (rs_op (rs_call (rs_cons (rs_op (rs_var rfl (rs_op (rs_var rfl (rs_op (rs_op (rs_c (rs_var rfl (rs_mul (Or.inl (small_of (by omega) (by omega))) (rs_c (rs_add ?_)))))))))))))))
    refine ix_row (k := 3 * k + 4) hf (LGr_c _ (by omega) k hk) (by omega) fun v _ a0 a1 => ?_
    refine rs_add (rs_nil (rs_int (rs_var rfl (rs_mod (by omega) ?_))))
    have m0 : 0 ≤ ((j : Int) + v) % (ks.length : Int) := Int.emod_nonneg _ (by omega)
    have m1 : ((j : Int) + v) % (ks.length : Int) < ks.length := Int.emod_lt_of_pos _ (by omega)
    obtain ⟨t, ht⟩ := Int.eq_ofNat_of_zero_le m0
    rw [ht] at m1 ⊢
    have htk : t < ks.length := by omega
    have e1 : ks[t]? = some ks[t] := List.getElem?_eq_getElem htk
    have e2 : rs[t]? = some rs[t] := List.getElem?_eq_getElem (by omega)
    generalize ks[t] = w at e1
    generalize rs[t] = ro' at e2
    show Ss (seqF _ _ (GS c ks vs rs (some (.int (k : Int))) x7 (some (.int z)) (some (.lst (inn.map wD))) (some (.int (j : Int))) (some (.int (t : Int))))) _ _ _ _ _
    refine ss_seq (ss_cut (fun r => ∃ inn : List (List Nat), r = GS c ks vs rs (some (.int (k : Int))) x7 (some (.int z)) (some (.lst (inn.map wD))) (some (.int (j : Int))) (some (.int (t : Int))) ∧ inn.length ≤ j + 1 ∧ InOk ks rs ro inn) ?_ ?_)
    · refine ss_ifa (rs_T (rs_op (rs_op (rs_call (rs_cons (rs_var rfl (rs_nil (rs_int (rs_c (rs_mod (by omega) (rs_c (rs_eqI (rs_asB ⟨fun _ => ?_, fun _ => ss_nx ⟨inn, rfl, by omega, hin⟩⟩)))))))))))))
      refine ss_if (rs_T (rs_call (rs_cons (rs_op (rs_var rfl (rs_var rfl (rs_ixL (d := wD ro) (atI_nat (by rw [List.getElem?_map, hro]; rfl)) (rs_cons (rs_op (rs_var rfl (rs_var rfl (rs_ixL (d := wD ro') (atI_nat (by rw [List.getElem?_map, e2]; rfl)) (rs_nil (Rs.of (may_eq ro ro') (rs_asB ⟨fun z => ?_, fun _ => ss_nx ⟨inn, rfl, by omega, hin⟩⟩)))))))))))))))
      refine ss_app (ds := inn.map wD) rfl (rs_op (rs_var rfl (rs_var rfl (rs_ixL (d := wD w) (atI_nat (by rw [List.getElem?_map, e1]; rfl)) ⟨Nat.lt_of_lt_of_le (show _ < 100000 by rw [List.length_map]; omega) sz5, inn ++ [w], ?_, by rw [List.length_append]; show _ + 1 ≤ _; omega, fun x hx => ?_⟩))))
      · rw [List.map_append]; rfl
      · rcases List.mem_append.mp hx with hx | hx
        · exact hin x hx
        · rw [List.mem_singleton.mp hx]; exact ⟨t, ro', e1, e2, z⟩
    · rintro _ ⟨inn, rfl, hl, hin⟩
      exact ss_set (rs_op (rs_var rfl (rs_c (rs_fdiv (by omega) ⟨inn, _, _, _, rfl, hl, hin⟩))))
  · rintro r ⟨inn, z, x10, x11, rfl, hl, hin⟩
    exact ⟨inn, z, x10, x11, rfl, by omega, hin⟩
theorem RowsOk.gr {ks rs : List (List Nat)} {R : List GR} (h : RowsOk ks rs R) (hl : R.length = ks.length) (hrs : rs.length = ks.length) (hd : ks.Nodup) (h10 : ks.length ≤ 12) (hro : ∀ r ∈ rs, r ∈ ROLES) {i : Nat} {top : List Nat} (h1 : ks[i]? = some top) (h2 : rs[i]? = some wRt) : R.map (·.k) = ks ∧ GrOk top R := by
  have ek : R.map (·.k) = ks := List.ext_getElem? fun i => by
    rw [List.getElem?_map]
    cases hr : R[i]? with
    | none => rw [List.getElem?_eq_none (by have := List.getElem?_eq_none_iff.mp hr; omega)]; rfl
    | some r => rw [(h i r hr).1]; rfl
  have hat : ∀ (j : Nat) (w ro : List Nat), ks[j]? = some w → rs[j]? = some ro → ∃ r ∈ R, r.k = w ∧ r.ro = ro := fun j w ro e1 e2 => by
    have hj : j < R.length := by have := (List.getElem?_eq_some_iff.mp e1).1; omega
    obtain ⟨q1, q2, _⟩ := h j R[j] (List.getElem?_eq_getElem hj)
    refine ⟨R[j], List.getElem_mem hj, ?_, ?_⟩
    · rw [q1] at e1; exact Option.some.inj e1
    · rw [q2] at e2; exact Option.some.inj e2
  refine ⟨ek, by rw [ek]; exact hd, hat i _ _ h1 h2, by omega, fun r hr => ?_⟩
  obtain ⟨j, hj⟩ := List.mem_iff_getElem?.mp hr
  obtain ⟨q1, q2, q3, q4⟩ := h j r hj
  refine ⟨hro _ (List.mem_of_getElem? q2), q3, fun w hw => ?_⟩
  obtain ⟨j', ro', e1, e2, e3⟩ := q4 w hw
  obtain ⟨r', m, n1, n2⟩ := hat j' w ro' e1 e2
  exact ⟨r', m, n1, by rw [n2]; exact e3⟩
theorem grammar_sp (c : Int) (ks : List (List Nat)) (h2 : 1 ≤ ks.length) (h10 : ks.length ≤ 12) (hd : ks.Nodup) : Rs (F_l_grammar [.int c, .lst (ks.map wD)]) (fun d => ∃ top R, d = .tup [wD top, .lst (R.map rowD)] ∧ R.map (·.k) = ks ∧ GrOk top R) nE := by
  refine rs_run ?_
  unfold Fb_l_grammar
  refine ss_seq (ss_set (rs_call (rs_cons (rs_var rfl (rs_nil (rs_lenL ?_))))))
  rw [List.length_map]
  refine ss_seq (ss_set (rs_call (rs_cons (rs_var rfl (rs_cons (rs_op (rs_lst (rs_cons (rs_var rfl (rs_cons (rs_c (rs_nil ⟨Nat.le_of_ble_eq_true rfl, ?_⟩))))))))))))
  refine rs_op (rs_lst (rs_cons (rs_c (rs_cons (rs_c (rs_cons (rs_var rfl (rs_nil ⟨Nat.le_of_ble_eq_true rfl, rs_var rfl ?_⟩))))))))
  refine rs_mulL ⟨by omega, by omega, Nat.le_trans (show 3 * (ks.length : Int).toNat ≤ 100000 by omega) sz5⟩ ?_
  have el : [D.int (ks.length : Int), .int 2] ++ (List.replicate (ks.length : Int).toNat [D.int 9, .int 4096, .int (ks.length : Int)]).flatten = (LGr ks.length).map D.int := by
    unfold LGr
    rw [List.map_append, List.map_flatten, List.map_replicate, Int.toNat_natCast]
    rfl
  refine rs_addLL (Nat.le_trans (show _ ≤ 100000 by rw [List.length_flatten, List.map_replicate, List.sum_replicate_nat, Int.toNat_natCast]; simp; omega) sz5) (rs_nil ?_)
  rw [el]
  show Rs (F_l_row [.int c, iL (LGr ks.length)]) _ _
  refine row_of c (LGr ks.length) (LGr_pos _ (by omega) (by omega)) (LGr_len _ (by omega)) fun vs hf => ?_
  refine ss_seq (ss_set (rs_lst (rs_cons (rs_c (rs_cons (rs_c (rs_cons (rs_c (rs_cons (rs_c (rs_cons (rs_c (rs_cons (rs_c (rs_cons (rs_c (rs_cons (rs_c (rs_cons (rs_c (rs_nil ⟨Nat.le_of_ble_eq_true rfl, ?_⟩)))))))))))))))))))))
  show Ss (seqF _ _ [some (.int c), some (.lst (ks.map wD)), some (.int (ks.length : Int)), some (iL vs), some (.lst (MENU.map wD)), none, none, none, none, none, none, none]) _ _ _ _ _
  refine ss_seq (ss_set (rs_lc (fun k : Nat => D.int (k : Int)) (fun k => wD (MENU.getD (vs.getD (3 * k + 2) 0).toNat [])) (List.range ks.length) (rs_rngC (rs_var rfl rfl) (by omega)) (Nat.le_trans (show _ ≤ 100000 by rw [List.length_range]; omega) sz5) (fun k hk => ⟨_, rfl, rfl, ?_⟩) ?_))
  · have hk := List.mem_range.mp hk
    refine rs_op (rs_var (d := .lst (MENU.map wD)) rfl (rs_op (rs_var (d := iL vs) rfl (rs_op (rs_op (rs_c (rs_var (d := .int (k : Int)) rfl (rs_mul (Or.inl (small_of (by omega) (by omega))) (rs_c (rs_add ?_))))))))))
    refine ix_row (k := 3 * k + 2) hf (LGr_a _ (by omega) k hk) (by omega) fun v hv a0 a1 => ?_
    rw [show vs.getD (3 * k + 2) 0 = v by rw [List.getD_eq_getElem?_getD, hv]; rfl]
    have hlt : v.toNat < MENU.length := by show _ < 9; omega
    refine rs_ixL (d := wD (MENU.getD v.toNat [])) (at_pos a0 ?_) rfl
    rw [List.getElem?_map, List.getD_eq_getElem?_getD, List.getElem?_eq_getElem hlt]
    rfl
  have hmem : ∀ r ∈ (List.range ks.length).map (fun k => MENU.getD (vs.getD (3 * k + 2) 0).toNat []), r ∈ ROLES := by
    intro r hr
    obtain ⟨k, hk, rfl⟩ := List.mem_map.mp hr
    have hk := List.mem_range.mp hk
    obtain ⟨v, hv, a0, a1⟩ := hf.get (LGr_a _ (by omega) k hk)
    rw [show vs.getD (3 * k + 2) 0 = v by rw [List.getD_eq_getElem?_getD, hv]; rfl, List.getD_eq_getElem?_getD]
    have hlt : v.toNat < MENU.length := by show _ < 9; omega
    refine menu_in _ ?_
    show (MENU[v.toNat]?).getD [] ∈ MENU
    rw [List.getElem?_eq_getElem hlt]
    exact List.getElem_mem hlt
  obtain ⟨rs0, hrs0, hrl0, hrr0⟩ : ∃ rs0 : List (List Nat), rs0 = (List.range ks.length).map (fun k => MENU.getD (vs.getD (3 * k + 2) 0).toNat []) ∧ rs0.length = ks.length ∧ ∀ r ∈ rs0, r ∈ ROLES := ⟨_, rfl, by rw [List.length_map, List.length_range], hmem⟩
  have emap : (List.range ks.length).map (fun k => wD (MENU.getD (vs.getD (3 * k + 2) 0).toNat [])) = rs0.map wD := by rw [hrs0, List.map_map]; rfl
  rw [emap]
  clear hrs0 emap
  show Ss (seqF _ _ (GS c ks vs rs0 none none none none none none)) _ _ _ _ _
  have i0 : (LGr ks.length)[0]? = some (ks.length : Int) := rfl
  have i1 : (LGr ks.length)[1]? = some 2 := rfl
  obtain ⟨v0, hv0, a0, a1⟩ := hf.get i0
  obtain ⟨t, rfl⟩ := Int.eq_ofNat_of_zero_le a0
  have htk : t < ks.length := by omega
  have hx0 : atI (vs.map D.int) 0 = some (.int (t : Int)) := atI_nat (j := 0) (by rw [List.getElem?_map, hv0]; rfl)
  refine ss_seq (ss_sto (n := t) (k := (t : Int)) (ds := rs0.map wD) (rs_c ⟨rfl, rs_op (rs_var rfl (rs_c (rs_ixL hx0 ⟨rfl, by rw [List.length_map]; exact ixN_nat (by omega), ?_⟩)))⟩))
  obtain ⟨rs, hrs, hrl, hrr, hrt⟩ : ∃ rs : List (List Nat), rs.map wD = (rs0.map wD).set t (.str (Sg [114, 111, 111, 116])) ∧ rs.length = ks.length ∧ (∀ r ∈ rs, r ∈ ROLES) ∧ rs[t]? = some wRt := ⟨rs0.set t wRt, List.map_set, by rw [List.length_set]; exact hrl0, mem_set_of hrr0 (by decide), by rw [List.getElem?_set_self (by omega)]⟩
  rw [← hrs]
  show Ss (seqF _ _ (GS c ks vs rs none none none none none none)) _ _ _ _ _
  refine ss_seq (ss_set (rs_lst (rs_nil ⟨Nat.zero_le _, ?_⟩)))
  refine ss_seq (ss_rng ks.length (fun k r => ∃ (R : List GR) (x6 x8 x9 x10 x11 : Option D), r = GS c ks vs rs x6 (some (.lst (R.map rowD))) x8 x9 x10 x11 ∧ R.length = k ∧ RowsOk ks rs R) (rs_var rfl rfl) (by omega) ⟨[], none, none, none, none, none, rfl, rfl, fun j r h => (by cases h)⟩ ?_ ?_)
  · rintro k r hk ⟨R, x6, x8, x9, x10, x11, rfl, hR, hok⟩
    show Ss (Lp_l_grammar_2 (GS c ks vs rs (some (.int (k : Int))) (some (.lst (R.map rowD))) x8 x9 x10 x11)) _ _ _ _ _
    unfold Lp_l_grammar_2
    refine ss_seq (ss_par (rs_op (rs_var rfl (rs_op (rs_op (rs_c (rs_var rfl (rs_mul (Or.inl (small_of (by omega) (by omega))) (rs_c (rs_add ?_))))))))))
    refine ix_row (k := 3 * k + 3) hf (LGr_b _ (by omega) k hk) (by omega) fun v _ b0 b1 => ?_
    refine rs_lst (rs_nil ⟨Nat.zero_le _, ?_⟩)
    have ek : ks[k]? = some ks[k] := List.getElem?_eq_getElem hk
    have er : rs[k]? = some rs[k] := List.getElem?_eq_getElem (by omega)
    generalize ks[k] = w at ek
    generalize rs[k] = ro at er
    show Ss (seqF _ _ (GS c ks vs rs (some (.int (k : Int))) (some (.lst (R.map rowD))) (some (.int v)) (some (.lst [])) x10 x11)) _ _ _ _ _
    refine ss_seq ((inner_sp c ks h2 h10 hf hrl k hk er _ x10 x11 v).imp ?_ (fun _ z => z.elim) (fun _ z => z.elim) (fun _ z => z.elim) fun _ _ _ _ z => z)
    rintro _ ⟨inn, z, x10, x11, rfl, hil, hin⟩
    refine ss_seq (ss_cut (fun r => ∃ inn : List (List Nat), r = GS c ks vs rs (some (.int (k : Int))) (some (.lst (R.map rowD))) (some (.int z)) (some (.lst (inn.map wD))) x10 x11 ∧ inn.length ≤ 12 ∧ InOk ks rs ro inn) ?_ ?_)
    · refine ss_if (rs_T (rs_op (rs_op (rs_var rfl (rs_c (ix_row (k := 1) hf i1 rfl fun v _ _ _ => rs_c (rs_eqI (rs_asB ⟨fun _ => ?_, fun _ => ss_nx ⟨inn, rfl, hil, hin⟩⟩))))))))
      refine ss_rev (ds := inn.map wD) rfl ⟨inn.reverse, by rw [List.map_reverse]; rfl, by rw [List.length_reverse]; exact hil, fun x hx => hin x (List.mem_reverse.mp hx)⟩
    · rintro _ ⟨inn, rfl, hil, hin⟩
      refine ss_app (ds := R.map rowD) rfl (rs_tup (rs_cons (rs_op (rs_var rfl (rs_var rfl (rs_ixL (d := wD w) (atI_nat (by rw [List.getElem?_map, ek]; rfl)) (rs_cons (rs_op (rs_var rfl (rs_var rfl (rs_ixL (d := wD ro) (atI_nat (by rw [List.getElem?_map, er]; rfl)) (rs_cons (rs_call (rs_cons (rs_var rfl (rs_nil (rs_tupL (rs_nil ?_))))))))))))))))))
      refine ⟨Nat.le_of_ble_eq_true rfl, Nat.lt_of_lt_of_le (show _ < 100000 by rw [List.length_map]; omega) sz5, R ++ [⟨w, ro, inn⟩], some (.int (k : Int)), some (.int z), some (.lst (inn.map wD)), x10, x11, by rw [List.map_append]; rfl, by rw [List.length_append, hR]; rfl, fun j r hj => ?_⟩
      by_cases hjl : j < R.length
      · rw [List.getElem?_append_left hjl] at hj
        exact hok j r hj
      · rw [List.getElem?_append_right (by omega)] at hj
        have hj0 : j - R.length = 0 := by
          have := (List.getElem?_eq_some_iff.mp hj).1
          rw [List.length_singleton] at this
          omega
        rw [hj0] at hj
        cases hj
        rw [show j = k by omega]
        exact ⟨ek, er, hil, hin⟩
  · rintro r ⟨R, x6, x8, x9, x10, x11, rfl, hR, hok⟩
    have ek : ks[t]? = some ks[t] := List.getElem?_eq_getElem htk
    generalize ks[t] = top at ek
    obtain ⟨q1, q2⟩ := hok.gr hR hrl hd h10 hrr ek hrt
    exact ss_ret (rs_tup (rs_cons (rs_op (rs_var rfl (rs_op (rs_var (d := iL vs) rfl (rs_c (rs_ixL hx0 (rs_ixL (d := wD top) (atI_nat (by rw [List.getElem?_map, ek]; rfl)) (rs_cons (rs_var (d := .lst (R.map rowD)) rfl (rs_nil ⟨Nat.le_of_ble_eq_true rfl, top, R, rfl, q1, q2⟩))))))))))))
end
section
def tks (R : List GR) : List Key := R.map fun r => Sum.inr (Sg r.k)
def valR (r : GR) : D := .tup [wD r.ro, .tup (r.inn.map wD)]
def tvs (R : List GR) : List D := R.map valR
def tbD (R : List GR) : D := .dk (tks R) (tvs R)
def fdR (R : List GR) (k : List Nat) : Option GR := R.find? fun r => decide (r.k = k)
theorem getK_R (R : List GR) (k : List Nat) : getK (tks R) (tvs R) (Sum.inr (Sg k)) = (fdR R k).map valR := by
  unfold fdR
  induction R with
  | nil => rfl
  | cons r R ih =>
    rw [List.find?_cons]
    show getK (Sum.inr (Sg r.k) :: tks R) (valR r :: tvs R) _ = _
    unfold getK
    by_cases h : r.k = k
    · rw [if_pos (by rw [h]), decide_eq_true h]
      rfl
    · rw [if_neg (fun e => h (by simpa using Sum.inr.inj e)), decide_eq_false h]
      exact ih
theorem fdR_none {R : List GR} {k : List Nat} : fdR R k = none ↔ k ∉ R.map (·.k) := by
  unfold fdR
  rw [List.find?_eq_none]
  constructor
  · intro h hm
    obtain ⟨r, hr, e⟩ := List.mem_map.mp hm
    exact h r hr (decide_eq_true e)
  · intro h r hr e
    exact h (List.mem_map.mpr ⟨r, hr, of_decide_eq_true e⟩)
theorem fdR_mem {R : List GR} (hd : (R.map (·.k)).Nodup) {r : GR} (hr : r ∈ R) : fdR R r.k = some r := by
  unfold fdR
  induction R with
  | nil => cases hr
  | cons x R ih =>
    rw [List.find?_cons]
    rw [List.map_cons] at hd
    obtain ⟨h1, h2⟩ := List.nodup_cons.mp hd
    rcases List.mem_cons.mp hr with rfl | hr
    · rw [decide_eq_true rfl]
    · rw [decide_eq_false (fun e => h1 (by rw [e]; exact List.mem_map_of_mem hr))]
      exact ih h2 hr
theorem fdR_some {R : List GR} {k : List Nat} {r : GR} (h : fdR R k = some r) : r ∈ R ∧ r.k = k := ⟨List.mem_of_find?_eq_some h, of_decide_eq_true (List.find?_some (p := fun r : GR => decide (r.k = k)) (l := R) h)⟩
theorem fdR_ex {R : List GR} {k : List Nat} (h : k ∈ R.map (·.k)) : ∃ r, fdR R k = some r := by
  cases e : fdR R k with
  | none => exact absurd h (fdR_none.mp e)
  | some r => exact ⟨r, rfl⟩
theorem put_new {R : List GR} {r : GR} (h : r.k ∉ R.map (·.k)) : putV (tks R) (tvs R) (Sum.inr (Sg r.k)) (valR r) = (tks (R ++ [r]), tvs (R ++ [r])) := by
  unfold putV
  rw [if_neg, show tks (R ++ [r]) = tks R ++ [Sum.inr (Sg r.k)] by unfold tks; rw [List.map_append]; rfl, show tvs (R ++ [r]) = tvs R ++ [valR r] by unfold tvs; rw [List.map_append]; rfl]
  intro q
  obtain ⟨x, hx, e⟩ := List.any_eq_true.mp q
  obtain ⟨r', hr', rfl⟩ := List.mem_map.mp hx
  have e := Sum.inr.inj (of_decide_eq_true e)
  exact h (List.mem_map.mpr ⟨r', hr', by simpa using e⟩)
section
variable {Q : D → Prop} {E : Str → List Str → List D → Prop} {R : List GR}
theorem rs_getR {k : List Nat} {r : GR} (h : fdR R k = some r) (q : Q (valR r)) : Rs (getZ (tbD R) (wD k)) Q E := by
  show Rs (match getK (tks R) (tvs R) (Sum.inr (Sg k)) with | some d => Res.ok d | none => Res.bad) Q E
  rw [getK_R, h]
  exact q
theorem rs_inR {neg : Bool} {k : List Nat} (q : Q (.bl (if neg then !(fdR R k).isSome else (fdR R k).isSome))) : Rs (inK neg (wD k) (tbD R)) Q E := by
  show Q (.bl (if neg then !(getK (tks R) (tvs R) (Sum.inr (Sg k))).isSome else (getK (tks R) (tvs R) (Sum.inr (Sg k))).isSome))
  rw [getK_R, Option.isSome_map]
  exact q
end
def grD (top : List Nat) (R : List GR) : D := .obj "Grammar" ["root", "order", "entries"] [wD top, .lst (R.map fun r => wD r.k), tbD R]
theorem roles_may : ∀ a ∈ ROLES, ∀ b ∈ ROLES, ∃ ds, mdGet md_INNER_ROLES (wD a) = .ok (.kt ds) ∧ inFlat (wD b) ds = some (mayB a b) := by
  intro a ha b hb
  simp only [List.mem_cons, List.not_mem_nil, or_false] at ha hb
  rcases ha with rfl | rfl | rfl | rfl | rfl | rfl | rfl <;> rcases hb with rfl | rfl | rfl | rfl | rfl | rfl | rfl <;> exact ⟨_, rfl, rfl⟩
theorem rs_inMd {neg : Bool} {a : List Nat} {ds : List D} {b : Bool} {Q : D → Prop} {E : Str → List Str → List D → Prop} (h : inFlat (wD a) ds = some b) (q : Q (.bl (if neg then !b else b))) : Rs (inKt neg (wD a) (.kt ds)) Q E := by
  unfold inKt
  dsimp only
  rw [h]
  exact q
end
section
structure Cd {α : Type} [DecidableEq α] (P : α → Prop) (f : α → D) (n : Nat) (py : α → PyData) : Prop where
  e : ∀ a, P a → toPy (f a) = some (py a)
  l : ∀ a, P a → PyData.canLay0 (py a) = true ∧ PyData.depth (py a) ≤ n
  q : ∀ a b, P a → P b → PyData.eqv (py a) (py b) = decide (a = b)
theorem cd_str : Cd (fun l => PyData.strOk (Sg l) = true) (fun l => D.str (Sg l)) 0 (fun l => PyData.str (Sg l)) := ⟨fun _ _ => by simp [toPy], fun _ h => by simp [PyData.canLay0, PyData.depth, h], fun a b _ _ => by
  simp only [PyData.eqv]
  rw [show (Sg a == Sg b) = decide (Sg a = Sg b) from by by_cases h : Sg a = Sg b <;> simp [h], ST_dec]⟩
section
variable {α β γ δ ε : Type} [DecidableEq α] [DecidableEq β] [DecidableEq γ] [DecidableEq δ] [DecidableEq ε] {P : α → Prop} {R : β → Prop} {T : γ → Prop} {U : δ → Prop} {f : α → D} {g : β → D} {h : γ → D} {k : δ → D} {n : Nat} {py : α → PyData} {pz : β → PyData} {pw : γ → PyData} {px : δ → PyData}
theorem Cd.all (c : Cd P f n py) : ∀ xs : List α, (∀ x ∈ xs, P x) → toPyL (xs.map f) = some (xs.map py) ∧ PyData.canLayAll0 (xs.map py) = true ∧ PyData.depthAll (xs.map py) ≤ n
  | [], _ => ⟨by simp [toPyL], by simp [PyData.canLayAll0], by simp [PyData.depthAll]⟩
  | x :: xs, hx => by
    obtain ⟨h1, h2, h3⟩ := c.all xs fun y hy => hx y (List.mem_cons_of_mem _ hy)
    have hp := hx x List.mem_cons_self
    refine ⟨by rw [List.map_cons, toPyL, h1, c.e x hp]; rfl, ?_, ?_⟩
    · rw [List.map_cons, PyData.canLayAll0, h2, (c.l x hp).1]; rfl
    · rw [List.map_cons, PyData.depthAll]
      exact Nat.max_le.mpr ⟨(c.l x hp).2, h3⟩
theorem Cd.eqa (c : Cd P f n py) : ∀ xs ys : List α, (∀ x ∈ xs, P x) → (∀ x ∈ ys, P x) → PyData.eqvAll (xs.map py) (ys.map py) = decide (xs = ys)
  | [], [], _, _ => by simp [PyData.eqvAll]
  | [], _ :: _, _, _ => by simp [PyData.eqvAll]
  | _ :: _, [], _, _ => by simp [PyData.eqvAll]
  | x :: xs, y :: ys, hx, hy => by
    rw [List.map_cons, List.map_cons, PyData.eqvAll, c.q x y (hx x List.mem_cons_self) (hy y List.mem_cons_self), c.eqa xs ys (fun z hz => hx z (List.mem_cons_of_mem _ hz)) fun z hz => hy z (List.mem_cons_of_mem _ hz)]
    by_cases h1 : x = y <;> by_cases h2 : xs = ys <;> simp [h1, h2]
theorem cd_lst (c : Cd P f n py) : Cd (fun xs : List α => ∀ x ∈ xs, P x) (fun xs => D.lst (xs.map f)) (n + 1) (fun xs => PyData.list (xs.map py)) := ⟨fun xs hx => by rw [toPy, (c.all xs hx).1]; rfl,
  fun xs hx => ⟨by rw [PyData.canLay0]; exact (c.all xs hx).2.1, by rw [PyData.depth]; exact Nat.succ_le_succ (c.all xs hx).2.2⟩, fun xs ys hx hy => by rw [PyData.eqv, c.eqa xs ys hx hy]⟩
theorem cd_tup (c : Cd P f n py) : Cd (fun xs : List α => ∀ x ∈ xs, P x) (fun xs => D.tup (xs.map f)) (n + 1) (fun xs => PyData.tuple (xs.map py)) := ⟨fun xs hx => by rw [toPy, (c.all xs hx).1]; rfl,
  fun xs hx => ⟨by rw [PyData.canLay0]; exact (c.all xs hx).2.1, by rw [PyData.depth]; exact Nat.succ_le_succ (c.all xs hx).2.2⟩, fun xs ys hx hy => by rw [PyData.eqv, c.eqa xs ys hx hy]⟩
theorem Cd.comp (c : Cd P f n py) (φ : β → α) (hi : ∀ a b, φ a = φ b → a = b) : Cd (fun b => P (φ b)) (fun b => f (φ b)) n (fun b => py (φ b)) := ⟨fun b hb => c.e _ hb, fun b hb => c.l _ hb, fun a b ha hb => by
  rw [c.q _ _ ha hb]
  by_cases h : a = b
  · subst h; simp
  · rw [decide_eq_false h, decide_eq_false fun z => h (hi _ _ z)]⟩
theorem toPy2 {a b : D} {p q : PyData} (h1 : toPy a = some p) (h2 : toPy b = some q) : toPy (.tup [a, b]) = some (.tuple [p, q]) := by
  rw [toPy, toPyL, toPyL, toPyL, h1, h2]; rfl
theorem toPy3 {a b c : D} {p q r : PyData} (h1 : toPy a = some p) (h2 : toPy b = some q) (h3 : toPy c = some r) : toPy (.tup [a, b, c]) = some (.tuple [p, q, r]) := by
  rw [toPy, toPyL, toPyL, toPyL, toPyL, h1, h2, h3]; rfl
theorem cd_p2 (c : Cd P f n py) (d : Cd R g n pz) : Cd (fun p : α × β => P p.1 ∧ R p.2) (fun p => D.tup [f p.1, g p.2]) (n + 1) (fun p => .tuple [py p.1, pz p.2]) := ⟨fun p hp => toPy2 (c.e _ hp.1) (d.e _ hp.2), fun p hp => by
  have h1 := c.l _ hp.1
  have h2 := d.l _ hp.2
  refine ⟨by simp [PyData.canLay0, PyData.canLayAll0, h1.1, h2.1], ?_⟩
  simp only [PyData.depth, PyData.depthAll]
  omega, fun p q hp hq => by
  simp only [PyData.eqv, PyData.eqvAll, c.q _ _ hp.1 hq.1, d.q _ _ hp.2 hq.2]
  by_cases h1 : p.1 = q.1 <;> by_cases h2 : p.2 = q.2 <;> simp [h1, h2, Prod.ext_iff]⟩
theorem cd_p3 (c : Cd P f n py) (d : Cd R g n pz) (e : Cd T h n pw) : Cd (fun p : α × β × γ => P p.1 ∧ R p.2.1 ∧ T p.2.2) (fun p => D.tup [f p.1, g p.2.1, h p.2.2]) (n + 1) (fun p => .tuple [py p.1, pz p.2.1, pw p.2.2]) := ⟨fun p hp => toPy3 (c.e _ hp.1) (d.e _ hp.2.1) (e.e _ hp.2.2), fun p hp => by
  have h1 := c.l _ hp.1
  have h2 := d.l _ hp.2.1
  have h3 := e.l _ hp.2.2
  refine ⟨by simp [PyData.canLay0, PyData.canLayAll0, h1.1, h2.1, h3.1], ?_⟩
  simp only [PyData.depth, PyData.depthAll]
  omega, fun p q hp hq => by
  simp only [PyData.eqv, PyData.eqvAll, c.q _ _ hp.1 hq.1, d.q _ _ hp.2.1 hq.2.1, e.q _ _ hp.2.2 hq.2.2]
  by_cases h1 : p.1 = q.1 <;> by_cases h2 : p.2.1 = q.2.1 <;> by_cases h3 : p.2.2 = q.2.2 <;> simp [h1, h2, h3, Prod.ext_iff]⟩
theorem Cd.up {m : Nat} (c : Cd P f n py) (hm : n ≤ m) : Cd P f m py := ⟨c.e, fun a ha => ⟨(c.l a ha).1, Nat.le_trans (c.l a ha).2 hm⟩, c.q⟩
theorem eq_cd (c : Cd P f n py) (hn : n ≤ 64) {a b : α} (ha : P a) (hb : P b) (hf : eqFlat (f a) (f b) = none) : eqB (f a) (f b) = .ok (decide (a = b)) := by
  have sh : ∀ a, P a → SeqAt.shaped (py a) = true := fun a ha => by
    obtain ⟨h1, h2⟩ := c.l a ha
    unfold SeqAt.shaped
    rw [h1, decide_eq_true (by omega)]
    rfl
  unfold eqB
  rw [hf]
  dsimp only
  unfold eqDeep
  rw [c.e a ha, c.e b hb]
  dsimp only
  rw [if_pos ⟨sh a ha, sh b hb⟩, c.q a b ha hb]
theorem rs_eqC {Q : D → Prop} {E : Str → List Str → List D → Prop} (c : Cd P f n py) (hn : n ≤ 64) {a b : α} (ha : P a) (hb : P b) (hf : eqFlat (f a) (f b) = none) (q : Q (.bl (decide (a = b)))) : Rs (eqD (f a) (f b)) Q E := by
  unfold eqD
  rw [eq_cd c hn ha hb hf]
  exact q
theorem rs_neC {Q : D → Prop} {E : Str → List Str → List D → Prop} (c : Cd P f n py) (hn : n ≤ 64) {a b : α} (ha : P a) (hb : P b) (hf : eqFlat (f a) (f b) = none) (q : Q (.bl (!decide (a = b)))) : Rs (neD (f a) (f b)) Q E := by
  unfold neD
  rw [eq_cd c hn ha hb hf]
  exact q
end
end
section
theorem same_str (n : Nat) (l : List Nat) : F_l_same (n + 1) [.str (Sg l), .str (Sg l)] = .ok (.bl true) := Rs.eq (by
  refine rs_run ?_
  unfold Fb_l_same
  sizeOf_list_dec
  simp)
theorem same_lst (n : Nat) (ds : List D) (hl : ds.length ≤ 10000) (h : ∀ d ∈ ds, F_l_same n [d, d] = .ok (.bl true)) : F_l_same (n + 1) [.lst ds, .lst ds] = .ok (.bl true) := Rs.eq (by
  refine rs_run ?_
  unfold Fb_l_same
  sizeOf_list_dec
  refine ss_rng ds.length (fun i r => ∃ x, r = [some (.lst ds), some (.lst ds), x]) (by array_get_dec; rfl) (by omega) ⟨none, rfl⟩ ?_ ?_
  · rintro i r hi ⟨x, rfl⟩
    show Ss (Lp_l_same_1 (F_l_same n) [some (.lst ds), some (.lst ds), some (.int (i : Int))]) _ _ _ _ _
    unfold Lp_l_same_1
    array_get_dec
    refine rs_ixL (atI_nat (List.getElem?_eq_getElem hi)) ?_
    array_get_dec
    refine rs_ixL (atI_nat (List.getElem?_eq_getElem hi)) ?_
    array_get_dec
    refine Rs.of (h _ (List.getElem_mem hi)) ?_
    sizeOf_list_dec
    exact ⟨_, rfl⟩
  · rintro r ⟨x, rfl⟩
    array_get_dec
    rfl)
theorem same_tup (n : Nat) (ds : List D) (hl : ds.length ≤ 10000) (h : ∀ d ∈ ds, F_l_same n [d, d] = .ok (.bl true)) : F_l_same (n + 1) [.tup ds, .tup ds] = .ok (.bl true) := Rs.eq (by
  refine rs_run ?_
  unfold Fb_l_same
  sizeOf_list_dec
  refine ss_rng ds.length (fun i r => ∃ x, r = [some (.tup ds), some (.tup ds), x]) (by array_get_dec; rfl) (by omega) ⟨none, rfl⟩ ?_ ?_
  · rintro i r hi ⟨x, rfl⟩
    show Ss (Lp_l_same_1 (F_l_same n) [some (.tup ds), some (.tup ds), some (.int (i : Int))]) _ _ _ _ _
    unfold Lp_l_same_1
    array_get_dec
    refine rs_ixT (atI_nat (List.getElem?_eq_getElem hi)) ?_
    array_get_dec
    refine rs_ixT (atI_nat (List.getElem?_eq_getElem hi)) ?_
    array_get_dec
    refine Rs.of (h _ (List.getElem_mem hi)) ?_
    sizeOf_list_dec
    exact ⟨_, rfl⟩
  · rintro r ⟨x, rfl⟩
    array_get_dec
    rfl)
end
section
def dupR (K : List (List Nat)) : List GR → Option (List Nat)
  | [] => none
  | r :: R => if r.k ∈ K then some r.k else dupR (K ++ [r.k]) R
def innS (R : List GR) (ro : List Nat) : List (List Nat) → Option (Nat × List Nat)
  | [] => none
  | w :: ws => match fdR R w with
    | none => some (1, w)
    | some r => if mayB ro r.ro = true then innS R ro ws else some (2, w)
def rowsS (R : List GR) : List GR → Option (Nat × List Nat)
  | [] => none
  | r :: rs => match innS R r.ro r.inn with
    | some x => some x
    | none => rowsS R rs
theorem dupR_c (K : List (List Nat)) (r : GR) (R : List GR) : dupR K (r :: R) = if r.k ∈ K then some r.k else dupR (K ++ [r.k]) R := rfl
theorem innS_c (R : List GR) (ro w : List Nat) (ws : List (List Nat)) : innS R ro (w :: ws) = match fdR R w with
    | none => some (1, w)
    | some r => if mayB ro r.ro = true then innS R ro ws else some (2, w) := rfl
theorem rowsS_c (R : List GR) (r : GR) (rs : List GR) : rowsS R (r :: rs) = match innS R r.ro r.inn with
    | some x => some x
    | none => rowsS R rs := rfl
def dueS (top : List Nat) (R : List GR) : Option (Nat × List Nat) := match dupR [] R with
  | some w => some (0, w)
  | none => match fdR R top with
    | none => some (1, top)
    | some r => if r.ro = wRt then rowsS R R else some (2, top)
def xN : Nat → Str
  | 0 => "Taken"
  | 1 => "Unknown"
  | _ => "Misfit"
def RwOk (R : List GR) : Prop := R.length ≤ 12 ∧ ∀ r ∈ R, r.ro ∈ ROLES ∧ r.inn.length ≤ 30
def eK (t : Nat) (w : List Nat) (n : Str) (ns : List Str) (vs : List D) : Prop := n = xN t ∧ ns = (["kind"] : List Str) ∧ vs = [wD w]
theorem check_sp {top : List Nat} {R : List GR} (ok : RwOk R) (hd : (R.map (·.k)).Nodup) {r : GR} (hr : r ∈ R) : Rs (F_Grammar_check_inner [grD top R, wD r.k]) (fun d => d = .non ∧ innS R r.ro r.inn = none) (fun n ns vs => ∃ t w, innS R r.ro r.inn = some (t, w) ∧ eK t w n ns vs) := by
  obtain ⟨hl, hok⟩ := ok
  obtain ⟨hro, hil⟩ := hok r hr
  refine rs_run ?_
  unfold Fb_Grammar_check_inner
  have fld : ∀ {x2 x3 x4 : Option D} {Q : D → Prop} {E : Str → List Str → List D → Prop}, Q (tbD R) → Rs (dUn (fldD "Grammar" "entries") (dVar 0) [some (grD top R), some (wD r.k), x2, x3, x4]) Q E := fun q => rs_un (rs_var (d := grD top R) rfl (rs_fld (d := tbD R) rfl q))
  refine ss_seq (ss_asg (rs_op (fld (rs_var (d := wD r.k) rfl (rs_getR (fdR_mem hd hr) ⟨[some (grD top R), some (wD r.k), some (wD r.ro), some (.tup (r.inn.map wD)), none], rfl, ?_⟩)))))
  refine ss_for (fun i s => innS R r.ro (r.inn.drop i) = innS R r.ro r.inn ∧ ∃ x4, s = [some (grD top R), some (wD r.k), some (wD r.ro), some (.tup (r.inn.map wD)), x4]) (rs_it (rs_var rfl (rs_itsT ⟨⟨rfl, none, rfl⟩, fun i d s hi hs => ?_, fun s hs => ?_⟩)))
  · obtain ⟨hinv, x4, rfl⟩ := hs
    rw [List.getElem?_map] at hi
    cases hw : r.inn[i]? with
    | none => rw [hw] at hi; cases hi
    | some w =>
      rw [hw] at hi
      cases hi
      have hdrop : r.inn.drop i = w :: r.inn.drop (i + 1) := by
        obtain ⟨h1, h2⟩ := List.getElem?_eq_some_iff.mp hw
        rw [List.drop_eq_getElem_cons h1, h2]
      rw [hdrop] at hinv
      rw [innS_c] at hinv
      refine ⟨[some (grD top R), some (wD r.k), some (wD r.ro), some (.tup (r.inn.map wD)), some (wD w)], rfl, ?_⟩
      unfold Lp_Grammar_check_inner_1
      refine ss_seq (ss_if (rs_T (rs_op (rs_var (d := wD w) rfl (fld (rs_inR (rs_asB ⟨fun z => ?_, fun z => ss_nx ?_⟩)))))))
      · have hf : fdR R w = none := by
          cases h : fdR R w with
          | none => rfl
          | some r' => rw [h] at z; cases z
        rw [hf] at hinv
        exact ss_raise (rs_cons (rs_var (d := wD w) rfl (rs_nil ⟨rfl, 1, w, hinv.symm, rfl, rfl, rfl⟩)))
      obtain ⟨r', hf⟩ : ∃ r', fdR R w = some r' := by
        cases h : fdR R w with
        | none => rw [h] at z; cases z
        | some r' => exact ⟨r', rfl⟩
      rw [hf] at hinv
      dsimp only at hinv
      obtain ⟨ds, h1, h2⟩ := roles_may _ hro _ (hok r' (fdR_some hf).1).1
      refine ss_if (rs_T (rs_op (rs_op (rs_op (fld (rs_var (d := wD w) rfl (rs_getR hf (rs_c (rs_ixT (d := wD r'.ro) (atI_nat (j := 0) rfl) (rs_un (rs_var (d := wD r.ro) rfl (Rs.of h1 (rs_inMd h2 (rs_asB ⟨fun z => ?_, fun z => ss_nx ⟨?_, _, rfl⟩⟩))))))))))))))
      · rw [if_neg (by revert z; cases mayB r.ro r'.ro <;> simp)] at hinv
        exact ss_raise (rs_cons (rs_var (d := wD w) rfl (rs_nil ⟨rfl, 2, w, hinv.symm, rfl, rfl, rfl⟩)))
      · rw [if_pos (by revert z; cases mayB r.ro r'.ro <;> simp)] at hinv
        exact hinv
  · obtain ⟨hinv, _⟩ := hs
    rw [List.length_map, List.drop_length] at hinv
    exact ⟨rfl, hinv.symm⟩
theorem ss_gramX {r : Rho} {i g1 g2 jb : Nat} {n f0 fl1 fl2 : Str} {Fl F : Rho → SR} {N : Rho → Prop} {R : D → Prop} {B C : Rho → Prop} {E : Rho → Str → List Str → List D → Prop} {d0 : D} (h0 : r[i]? = some (some (.obj n [f0] [d0]))) (l1 : g1 < r.length) (l2 : g2 < r.length)
    (h : Ss (Fl (((r.set i (some (.obj n [] []))).set g1 (some (.lst []))).set g2 (some (.dk [] [])))) (fun r' => ∃ m ds ks vs, r'[i]? = some (some (.obj m [] [])) ∧ r'[g1]? = some (some (.lst ds)) ∧ r'[g2]? = some (some (.dk ks vs)) ∧ Ss (F ((((r'.set i (some (.obj n [f0, fl1, fl2] [d0, .lst ds, .dk ks vs]))).set g1 none).set g2 none).set jb none)) N R B C E) (fun _ => False) (fun _ => False) (fun _ => False) E) : Ss (gramS i g1 g2 jb n f0 fl1 fl2 Fl F r) N R B C E := by
  cases e : Fl (((r.set i (some (.obj n [] []))).set g1 (some (.lst []))).set g2 (some (.dk [] []))) with
  | nx r' =>
    rw [e] at h
    obtain ⟨m, ds, ks, vs, q0, q1, q2, q3⟩ := h
    exact ss_gram h0 l1 l2 e ⟨m, q0⟩ q1 q2 q3
  | er r' m ns vs =>
    rw [e] at h
    unfold gramS
    rw [h0]
    dsimp only
    rw [if_pos ⟨rfl, rfl, l1, l2⟩, e]
    exact h
  | rt d => rw [e] at h; exact h.elim
  | bk r' => rw [e] at h; exact h.elim
  | ct r' => rw [e] at h; exact h.elim
  | bad => rw [e] at h; exact h.elim
def GI (top : List Nat) (R S : List GR) (x3 x4 x5 : Option D) : Rho := [some (.obj "Grammar" [] []), some (wD top), some (.lst (R.map rowD)), x3, x4, x5, some (.lst (S.map fun r => wD r.k)), some (tbD S)]
theorem gram_loop {top : List Nat} {R : List GR} (hl : R.length ≤ 12) (hi : ∀ r ∈ R, r.inn.length ≤ 30) {B C : Rho → Prop} {Rt : D → Prop} : Ss (forF (dIt itemsL (dVar 2)) (tgT 3 (tgCons (tgN 3) (tgCons (tgN 4) (tgCons (tgN 5) tgNil)))) Lp_Grammar_init_1 (GI top R [] none none none)) (fun r => ∃ x3 x4 x5, r = GI top R R x3 x4 x5 ∧ dupR [] R = none ∧ (R.map (·.k)).Nodup) Rt B C (fun _ n ns vs => ∃ w, dupR [] R = some w ∧ eK 0 w n ns vs) := by
  refine ss_for (fun i r => dupR ((R.take i).map (·.k)) (R.drop i) = dupR [] R ∧ ((R.take i).map (·.k)).Nodup ∧ ∃ x3 x4 x5, r = GI top R (R.take i) x3 x4 x5) (rs_it (rs_var rfl (rs_itsL ⟨⟨rfl, List.nodup_nil, none, none, none, rfl⟩, fun i d s hi hs => ?_, fun s hs => ?_⟩)))
  · obtain ⟨hinv, hnd, x3, x4, x5, rfl⟩ := hs
    rw [List.getElem?_map] at hi
    cases hx : R[i]? with
    | none => rw [hx] at hi; cases hi
    | some x =>
      rw [hx] at hi
      cases hi
      refine ⟨GI top R (R.take i) (some (wD x.k)) (some (wD x.ro)) (some (.tup (x.inn.map wD))), rfl, ?_⟩
      have hdrop : R.drop i = x :: R.drop (i + 1) := by
        obtain ⟨h1, h2⟩ := List.getElem?_eq_some_iff.mp hx
        rw [List.drop_eq_getElem_cons h1, h2]
      rw [hdrop] at hinv
      rw [dupR_c] at hinv
      have hlen : (R.take i).length ≤ 12 := by rw [List.length_take]; omega
      rw [take_snoc hx]
      generalize R.take i = S at hnd hlen hinv
      unfold Lp_Grammar_init_1
      refine ss_seq (ss_if (rs_T (rs_op (rs_var (d := wD x.k) rfl (rs_jf (d := tbD S) rfl rfl (rs_inR (rs_asB ⟨fun z => ?_, fun z => ss_nx ?_⟩)))))))
      · have hm : x.k ∈ S.map (·.k) := by
          apply Classical.byContradiction
          intro q
          rw [fdR_none.mpr q] at z
          cases z
        rw [if_pos hm] at hinv
        exact ss_raise (rs_cons (rs_var (d := wD x.k) rfl (rs_nil ⟨rfl, x.k, hinv.symm, rfl, rfl, rfl⟩)))
      have hnew : x.k ∉ S.map (·.k) := fun hm => by
        obtain ⟨r', e⟩ := fdR_ex hm
        rw [e] at z
        cases z
      rw [if_neg hnew] at hinv
      refine ss_seq (ss_putJ rfl ?_)
      refine ss_lift (rs_tup (rs_cons (rs_var (d := wD x.ro) rfl (rs_cons (rs_call (rs_cons (rs_var (d := .tup (x.inn.map wD)) rfl (rs_nil (rs_tupT (rs_nil ⟨Nat.le_of_ble_eq_true rfl, ?_⟩))))))))))
      refine ss_lift (Rs.of (a := (tks S, tvs S)) rfl (ss_lift (rs_var (d := wD x.k) rfl (ss_lift (Rs.of (a := (Sum.inr (Sg x.k) : Key)) rfl ?_)))))
      rw [guardS_pos (Nat.lt_of_lt_of_le (show (tks S).length < 100000 by unfold tks; rw [List.length_map]; omega) sz5)]
      have hput := put_new (R := S) (r := x) hnew
      have e : (GI top R S (some (wD x.k)) (some (wD x.ro)) (some (.tup (x.inn.map wD)))).set 7 (some (D.dk (putV (tks S) (tvs S) (Sum.inr (Sg x.k)) (valR x)).1 (putV (tks S) (tvs S) (Sum.inr (Sg x.k)) (valR x)).2)) = [some (.obj "Grammar" [] []), some (wD top), some (.lst (R.map rowD)), some (wD x.k), some (wD x.ro), some (.tup (x.inn.map wD)), some (.lst (S.map fun r => wD r.k)), some (tbD (S ++ [x]))] := by
        rw [hput]
        rfl
      show Ss (appJF 0 6 "Grammar" (dVar 3) ((GI top R S (some (wD x.k)) (some (wD x.ro)) (some (.tup (x.inn.map wD)))).set 7 (some (D.dk (putV (tks S) (tvs S) (Sum.inr (Sg x.k)) (valR x)).1 (putV (tks S) (tvs S) (Sum.inr (Sg x.k)) (valR x)).2)))) _ _ _ _ _
      rw [e]
      refine ss_appJ rfl (ss_app (ds := S.map fun r => wD r.k) rfl (rs_var (d := wD x.k) rfl ⟨Nat.lt_of_lt_of_le (show _ < 100000 by rw [List.length_map]; omega) sz5, ?_, ?_, some (wD x.k), some (wD x.ro), some (.tup (x.inn.map wD)), ?_⟩))
      · rw [List.map_append]
        exact hinv
      · rw [List.map_append]
        refine List.nodup_append.mpr ⟨hnd, by simp, fun a ha b hb e => ?_⟩
        rw [List.mem_singleton.mp hb] at e
        rw [e] at ha
        exact hnew ha
      · unfold GI
        rw [List.map_append]
        rfl
  · obtain ⟨hinv, hnd, x3, x4, x5, rfl⟩ := hs
    rw [List.length_map, List.take_length] at hnd ⊢
    rw [List.length_map, List.drop_length, List.take_length] at hinv
    exact ⟨x3, x4, x5, rfl, hinv.symm, hnd⟩
theorem init_sp {top : List Nat} {R : List GR} (ok : RwOk R) : Rs (F_Grammar_init [wD top, .lst (R.map rowD)]) (fun d => d = grD top R ∧ dueS top R = none ∧ (R.map (·.k)).Nodup) (fun n ns vs => ∃ t w, t < 3 ∧ dueS top R = some (t, w) ∧ eK t w n ns vs) := by
  refine rs_runI ?_
  unfold Fb_Grammar_init
  show Ss (seqF _ _ [some (.obj "Grammar" [] []), some (wD top), some (.lst (R.map rowD)), none, none, none, none, none]) _ _ _ _ _
  refine ss_seq (ss_fst (ns := []) (vs := []) (rs_var (d := wD top) rfl ⟨rfl, by decide, ?_⟩))
  refine ss_gramX (d0 := wD top) rfl (by show 6 < 8; omega) (by show 7 < 8; omega) ((gram_loop (top := top) ok.1 fun r hr => (ok.2 r hr).2).imp ?_ (fun _ z => z) (fun _ z => z) (fun _ z => z) ?_)
  · rintro _ ⟨x3, x4, x5, rfl, hdup, hd⟩
    refine ⟨_, _, _, _, rfl, rfl, rfl, ?_⟩
    show Ss (seqF _ _ [some (grD top R), some (wD top), none, x3, x4, x5, none, none]) _ _ _ _ _
    have fld : ∀ {x3 : Option D} {Q : D → Prop} {E : Str → List Str → List D → Prop}, Q (tbD R) → Rs (dUn (fldD "Grammar" "entries") (dVar 0) [some (grD top R), some (wD top), none, x3, x4, x5, none, none]) Q E := fun q => rs_un (rs_var (d := grD top R) rfl (rs_fld (d := tbD R) rfl q))
    unfold dueS
    rw [hdup]
    dsimp only
    refine ss_seq (ss_if (rs_T (rs_op (rs_var (d := wD top) rfl (fld (rs_inR (rs_asB ⟨fun z => ?_, fun z => ss_nx ?_⟩)))))))
    · have hf : fdR R top = none := by
        cases h : fdR R top with
        | none => rfl
        | some r' => rw [h] at z; cases z
      rw [hf]
      exact ss_raise (rs_cons (rs_var (d := wD top) rfl (rs_nil ⟨rfl, 1, top, by omega, rfl, rfl, rfl, rfl⟩)))
    obtain ⟨rt, hf⟩ : ∃ r', fdR R top = some r' := by
      cases h : fdR R top with
      | none => rw [h] at z; cases z
      | some r' => exact ⟨r', rfl⟩
    rw [hf]
    dsimp only
    refine ss_seq (ss_if (rs_T (rs_op (rs_op (rs_op (fld (rs_var (d := wD top) rfl (rs_getR hf (rs_c (rs_ixT (d := wD rt.ro) (atI_nat (j := 0) rfl) (rs_c (rs_neS (rs_asB ⟨fun z => ?_, fun z => ss_nx ?_⟩)))))))))))))
    · rw [if_neg (fun q : rt.ro = wRt => by rw [decide_eq_true q] at z; cases z)]
      exact ss_raise (rs_cons (rs_var (d := wD top) rfl (rs_nil ⟨rfl, 2, top, by omega, rfl, rfl, rfl, rfl⟩)))
    rw [if_pos (show rt.ro = wRt from by apply Classical.byContradiction; intro q; rw [decide_eq_false q] at z; cases z)]
    refine ss_each (fun r : GR => wD r.k) R (fun i s => rowsS R (R.drop i) = rowsS R R ∧ ∃ x3, s = [some (grD top R), some (wD top), none, x3, x4, x5, none, none]) (rs_un (rs_var (d := grD top R) rfl (rs_fld (d := .lst (R.map fun r => wD r.k)) rfl rfl))) ⟨rfl, x3, rfl⟩ ?_ ?_
    · rintro i r s hi ⟨hinv, x3, rfl⟩
      have hdrop : R.drop i = r :: R.drop (i + 1) := by
        obtain ⟨h1, h2⟩ := List.getElem?_eq_some_iff.mp hi
        rw [List.drop_eq_getElem_cons h1, h2]
      rw [hdrop] at hinv
      rw [rowsS_c] at hinv
      refine ss_drop (rs_meth (rs_var (d := grD top R) rfl (rs_isObj (by decide) (rs_cons (rs_var (d := wD r.k) rfl (rs_nil ((check_sp ok hd (List.mem_of_getElem? hi)).impE ?_ ?_)))))))
      · rintro d ⟨rfl, h⟩
        rw [h] at hinv
        exact ⟨hinv, some (wD r.k), rfl⟩
      · rintro n ns vs ⟨t, w, h, he⟩
        rw [h] at hinv
        refine ⟨t, w, ?_, hinv.symm, he⟩
        have key : ∀ ws, innS R r.ro ws = some (t, w) → t < 3 := by
          intro ws
          induction ws with
          | nil => intro h; cases h
          | cons v ws ih =>
            intro h
            unfold innS at h
            split at h
            · cases h; omega
            · split at h
              · exact ih h
              · cases h; omega
        exact key _ h
    · rintro s ⟨hinv, x3, rfl⟩
      rw [List.drop_length] at hinv
      exact ⟨_, rfl, rfl, hinv.symm, hd⟩
  · rintro _ n ns vs ⟨w, h, he⟩
    refine ⟨0, w, by omega, ?_, he⟩
    unfold dueS
    rw [h]
end
section
def tagW : Nat → List Nat
  | 0 => [116, 97, 107, 101, 110]
  | 1 => [117, 110, 107, 110, 111, 119, 110]
  | _ => [109, 105, 115, 102, 105, 116]
def dueD : Option (Nat × List Nat) → D
  | none => .tup [wD [103, 111, 111, 100], wD []]
  | some x => .tup [wD (tagW x.1), wD x.2]
def rvs (R : List GR) : List D := R.map fun r => wD r.ro
def rlD (R : List GR) : D := .dk (tks R) (rvs R)
theorem getK_r (R : List GR) (k : List Nat) : getK (tks R) (rvs R) (Sum.inr (Sg k)) = (fdR R k).map fun r => wD r.ro := by
  unfold fdR
  induction R with
  | nil => rfl
  | cons r R ih =>
    rw [List.find?_cons]
    show getK (Sum.inr (Sg r.k) :: tks R) (wD r.ro :: rvs R) _ = _
    unfold getK
    by_cases h : r.k = k
    · rw [if_pos (by rw [h]), decide_eq_true h]
      rfl
    · rw [if_neg (fun e => h (by simpa using Sum.inr.inj e)), decide_eq_false h]
      exact ih
theorem put_r {R : List GR} {r : GR} (h : r.k ∉ R.map (·.k)) : putV (tks R) (rvs R) (Sum.inr (Sg r.k)) (wD r.ro) = (tks (R ++ [r]), rvs (R ++ [r])) := by
  unfold putV
  rw [if_neg, show tks (R ++ [r]) = tks R ++ [Sum.inr (Sg r.k)] by unfold tks; rw [List.map_append]; rfl, show rvs (R ++ [r]) = rvs R ++ [wD r.ro] by unfold rvs; rw [List.map_append]; rfl]
  intro q
  obtain ⟨x, hx, e⟩ := List.any_eq_true.mp q
  obtain ⟨r', hr', rfl⟩ := List.mem_map.mp hx
  have e := Sum.inr.inj (of_decide_eq_true e)
  exact h (List.mem_map.mpr ⟨r', hr', by simpa using e⟩)
section
variable {Q : D → Prop} {E : Str → List Str → List D → Prop} {R : List GR}
theorem rs_getr {k : List Nat} {r : GR} (h : fdR R k = some r) (q : Q (wD r.ro)) : Rs (getZ (rlD R) (wD k)) Q E := by
  show Rs (match getK (tks R) (rvs R) (Sum.inr (Sg k)) with | some d => Res.ok d | none => Res.bad) Q E
  rw [getK_r, h]
  exact q
theorem rs_inr {neg : Bool} {k : List Nat} (q : Q (.bl (if neg then !(fdR R k).isSome else (fdR R k).isSome))) : Rs (inK neg (wD k) (rlD R)) Q E := by
  show Q (.bl (if neg then !(getK (tks R) (rvs R) (Sum.inr (Sg k))).isSome else (getK (tks R) (rvs R) (Sum.inr (Sg k))).isSome))
  rw [getK_r, Option.isSome_map]
  exact q
end
def US (top : List Nat) (R : List GR) (S : List GR) (x3 x4 : Option D) : Rho := [some (wD top), some (.lst (R.map rowD)), some (rlD S), x3, x4]
theorem due_eq {top : List Nat} {R : List GR} (ok : RwOk R) : F_l_due [wD top, .lst (R.map rowD)] = .ok (dueD (dueS top R)) := Rs.eq (by
  obtain ⟨hl, hok⟩ := ok
  refine rs_run ?_
  unfold Fb_l_due
  refine ss_seq (ss_set (show Rs (Res.ok _) _ _ from ?_))
  show Ss (seqF _ _ (US top R [] none none)) _ _ _ _ _
  refine ss_seq (ss_each rowD R (fun i s => dupR ((R.take i).map (·.k)) (R.drop i) = dupR [] R ∧ ∃ x3, s = US top R (R.take i) x3 none) (rs_var rfl rfl) ⟨rfl, none, rfl⟩ ?_ ?_)
  · rintro i x s hx ⟨hinv, x3, rfl⟩
    have hdrop : R.drop i = x :: R.drop (i + 1) := by
      obtain ⟨h1, h2⟩ := List.getElem?_eq_some_iff.mp hx
      rw [List.drop_eq_getElem_cons h1, h2]
    rw [hdrop, dupR_c] at hinv
    have hlen : (R.take i).length ≤ 12 := by rw [List.length_take]; omega
    rw [take_snoc hx]
    generalize R.take i = S at hlen hinv
    show Ss (Lp_l_due_1 (US top R S (some (rowD x)) none)) _ _ _ _ _
    unfold Lp_l_due_1
    have k0 : ∀ {x4 : Option D} {Q : D → Prop} {E : Str → List Str → List D → Prop}, Q (wD x.k) → Rs (dOp ixD (dVar 3) (dC (.int 0)) (US top R S (some (rowD x)) x4)) Q E := fun q => rs_op (rs_var (d := rowD x) rfl (rs_c (rs_ixT (d := wD x.k) (atI_nat (j := 0) rfl) q)))
    have k1 : ∀ {x4 : Option D} {Q : D → Prop} {E : Str → List Str → List D → Prop}, Q (wD x.ro) → Rs (dOp ixD (dVar 3) (dC (.int 1)) (US top R S (some (rowD x)) x4)) Q E := fun q => rs_op (rs_var (d := rowD x) rfl (rs_c (rs_ixT (d := wD x.ro) (atI_nat (j := 1) rfl) q)))
    refine ss_seq (ss_if (rs_T (rs_op (k0 (rs_var (d := rlD S) rfl (rs_inr (rs_asB ⟨fun z => ?_, fun z => ss_nx ?_⟩)))))))
    · have hm : x.k ∈ S.map (·.k) := by
        apply Classical.byContradiction
        intro q
        rw [fdR_none.mpr q] at z
        cases z
      rw [if_pos hm] at hinv
      refine ss_ret (rs_tup (rs_cons (rs_c (rs_cons (k0 (rs_nil ⟨Nat.le_of_ble_eq_true rfl, ?_⟩))))))
      unfold dueS
      rw [← hinv]
      rfl
    have hnew : x.k ∉ S.map (·.k) := fun hm => by
      obtain ⟨r', e⟩ := fdR_ex hm
      rw [e] at z
      cases z
    rw [if_neg hnew] at hinv
    refine ss_lift (k1 (ss_lift (Rs.of (a := (tks S, rvs S)) rfl (ss_lift (k0 (ss_lift (Rs.of (a := (Sum.inr (Sg x.k) : Key)) rfl ?_)))))))
    rw [guardS_pos (Nat.lt_of_lt_of_le (show (tks S).length < 100000 by unfold tks; rw [List.length_map]; omega) sz5)]
    have hput := put_r (R := S) (r := x) hnew
    refine ⟨by rw [List.map_append]; exact hinv, some (rowD x), ?_⟩
    show List.set _ 2 (some (D.dk (putV (tks S) (rvs S) (Sum.inr (Sg x.k)) (wD x.ro)).1 (putV (tks S) (rvs S) (Sum.inr (Sg x.k)) (wD x.ro)).2)) = _
    rw [hput]
    rfl
  · rintro s ⟨hinv, x3, rfl⟩
    rw [List.drop_length, List.take_length] at hinv
    have hdup : dupR [] R = none := hinv.symm
    rw [List.take_length]
    unfold dueS
    rw [hdup]
    dsimp only
    refine ss_seq (ss_if (rs_T (rs_op (rs_var (d := wD top) rfl (rs_var (d := rlD R) rfl (rs_inr (rs_asB ⟨fun z => ?_, fun z => ss_nx ?_⟩)))))))
    · have hf : fdR R top = none := by
        cases h : fdR R top with
        | none => rfl
        | some r' => rw [h] at z; cases z
      rw [hf]
      exact ss_ret (rs_tup (rs_cons (rs_c (rs_cons (rs_var (d := wD top) rfl (rs_nil ⟨Nat.le_of_ble_eq_true rfl, rfl⟩))))))
    obtain ⟨rt, hf⟩ : ∃ r', fdR R top = some r' := by
      cases h : fdR R top with
      | none => rw [h] at z; cases z
      | some r' => exact ⟨r', rfl⟩
    rw [hf]
    dsimp only
    refine ss_seq (ss_if (rs_T (rs_op (rs_op (rs_var (d := rlD R) rfl (rs_var (d := wD top) rfl (rs_getr hf (rs_c (rs_neS (rs_asB ⟨fun z => ?_, fun z => ss_nx ?_⟩))))))))))
    · rw [if_neg (fun q : rt.ro = wRt => by rw [decide_eq_true q] at z; cases z)]
      exact ss_ret (rs_tup (rs_cons (rs_c (rs_cons (rs_var (d := wD top) rfl (rs_nil ⟨Nat.le_of_ble_eq_true rfl, rfl⟩))))))
    rw [if_pos (show rt.ro = wRt from by apply Classical.byContradiction; intro q; rw [decide_eq_false q] at z; cases z)]
    refine ss_seq (ss_each rowD R (fun i s => rowsS R (R.drop i) = rowsS R R ∧ ∃ x3 x4, s = US top R R x3 x4) (rs_var rfl rfl) ⟨rfl, x3, none, rfl⟩ ?_ ?_)
    · rintro i r s hi ⟨hinv, x3, x4, rfl⟩
      have hdrop : R.drop i = r :: R.drop (i + 1) := by
        obtain ⟨h1, h2⟩ := List.getElem?_eq_some_iff.mp hi
        rw [List.drop_eq_getElem_cons h1, h2]
      rw [hdrop, rowsS_c] at hinv
      show Ss (Lp_l_due_3 (US top R R (some (rowD r)) x4)) _ _ _ _ _
      unfold Lp_l_due_3
      refine ss_for (fun j s => innS R r.ro (r.inn.drop j) = innS R r.ro r.inn ∧ ∃ x4, s = US top R R (some (rowD r)) x4) (rs_it (rs_op (rs_var (d := rowD r) rfl (rs_c (rs_ixT (d := .tup (r.inn.map wD)) (atI_nat (j := 2) rfl) (rs_itsT ⟨⟨rfl, x4, rfl⟩, fun j d s hj hs => ?_, fun s hs => ?_⟩))))))
      · obtain ⟨hin2, x4, rfl⟩ := hs
        rw [List.getElem?_map] at hj
        cases hw : r.inn[j]? with
        | none => rw [hw] at hj; cases hj
        | some w =>
          rw [hw] at hj
          cases hj
          have hdrop2 : r.inn.drop j = w :: r.inn.drop (j + 1) := by
            obtain ⟨h1, h2⟩ := List.getElem?_eq_some_iff.mp hw
            rw [List.drop_eq_getElem_cons h1, h2]
          rw [hdrop2, innS_c] at hin2
          refine ⟨US top R R (some (rowD r)) (some (wD w)), rfl, ?_⟩
          unfold Lp_l_due_2
          have fin : ∀ t, innS R r.ro r.inn = some (t, w) → dueD (rowsS R R) = dueD (some (t, w)) := fun t ht => by
            rw [ht] at hinv
            rw [← hinv]
          refine ss_seq (ss_if (rs_T (rs_op (rs_var (d := wD w) rfl (rs_var (d := rlD R) rfl (rs_inr (rs_asB ⟨fun z => ?_, fun z => ss_nx ?_⟩)))))))
          · have hf2 : fdR R w = none := by
              cases h : fdR R w with
              | none => rfl
              | some r' => rw [h] at z; cases z
            rw [hf2] at hin2
            refine ss_ret (rs_tup (rs_cons (rs_c (rs_cons (rs_var (d := wD w) rfl (rs_nil ⟨Nat.le_of_ble_eq_true rfl, ?_⟩))))))
            rw [fin 1 hin2.symm]
            rfl
          obtain ⟨r', hf2⟩ : ∃ r', fdR R w = some r' := by
            cases h : fdR R w with
            | none => rw [h] at z; cases z
            | some r' => exact ⟨r', rfl⟩
          rw [hf2] at hin2
          dsimp only at hin2
          refine ss_if (rs_not (rs_T (rs_call (rs_cons (rs_op (rs_var (d := rowD r) rfl (rs_c (rs_ixT (d := wD r.ro) (atI_nat (j := 1) rfl) (rs_cons (rs_op (rs_var (d := rlD R) rfl (rs_var (d := wD w) rfl (rs_getr hf2 (rs_nil (Rs.of (may_eq r.ro r'.ro) (rs_asB ⟨fun z => ?_, fun z => ss_nx ⟨?_, _, rfl⟩⟩))))))))))))))))
          · rw [if_neg (by revert z; cases mayB r.ro r'.ro <;> simp)] at hin2
            refine ss_ret (rs_tup (rs_cons (rs_c (rs_cons (rs_var (d := wD w) rfl (rs_nil ⟨Nat.le_of_ble_eq_true rfl, ?_⟩))))))
            rw [fin 2 hin2.symm]
            rfl
          · rw [if_pos (by revert z; cases mayB r.ro r'.ro <;> simp)] at hin2
            exact hin2
      · obtain ⟨hin2, x4, rfl⟩ := hs
        rw [List.length_map, List.drop_length] at hin2
        rw [← hin2] at hinv
        exact ⟨hinv, _, _, rfl⟩
    · rintro s ⟨hinv, x3, x4, rfl⟩
      rw [List.drop_length] at hinv
      rw [← hinv]
      exact ss_ret (rs_tup (rs_cons (rs_c (rs_cons (rs_c (rs_nil ⟨Nat.le_of_ble_eq_true rfl, rfl⟩)))))))
theorem error_eq (t : Nat) (ht : t < 3) (w : List Nat) : F_l_error [.obj (xN t) (["kind"] : List Str) [wD w]] = .ok (dueD (some (t, w))) := Rs.eq (by
  refine rs_run ?_
  unfold Fb_l_error
  match t, ht with
  | 0, _ =>
    refine ss_seq (ss_if (rs_or (rs_not (rs_T (rs_isX rfl rfl (rs_asB (rs_T (rs_isX rfl rfl (rs_asB ⟨fun z => (by cases z), fun _ => ss_nx ?_⟩)))))))))
    refine ss_seq (ss_if (rs_and (rs_T (rs_isX rfl rfl (rs_asB (rs_and (rs_not (rs_T (rs_isX rfl rfl (rs_asB (rs_not (rs_T (rs_isX rfl rfl (rs_asB ⟨fun _ => ?_, fun z => (by cases z)⟩))))))))))))))
    exact ss_ret (rs_tup (rs_cons (rs_c (rs_cons (rs_xf rfl rfl (rs_nil ⟨Nat.le_of_ble_eq_true rfl, rfl⟩))))))
  | 1, _ =>
    refine ss_seq (ss_if (rs_or (rs_not (rs_T (rs_isX rfl rfl (rs_asB (rs_T (rs_isX rfl rfl (rs_asB ⟨fun z => (by cases z), fun _ => ss_nx ?_⟩)))))))))
    refine ss_seq (ss_if (rs_andc (rs_T (rs_isX rfl rfl (rs_asB ⟨fun z => (by cases z), fun _ => ⟨fun z => (by cases z), fun _ => ss_nx ?_⟩⟩)))))
    refine ss_seq (ss_if (rs_and (rs_T (rs_isX rfl rfl (rs_asB (rs_and (rs_not (rs_T (rs_isX rfl rfl (rs_asB (rs_not (rs_T (rs_isX rfl rfl (rs_asB ⟨fun _ => ?_, fun z => (by cases z)⟩))))))))))))))
    exact ss_ret (rs_tup (rs_cons (rs_c (rs_cons (rs_xf rfl rfl (rs_nil ⟨Nat.le_of_ble_eq_true rfl, rfl⟩))))))
  | 2, _ =>
    refine ss_seq (ss_if (rs_or (rs_not (rs_T (rs_isX rfl rfl (rs_asB (rs_T (rs_isX rfl rfl (rs_asB ⟨fun z => (by cases z), fun _ => ss_nx ?_⟩)))))))))
    refine ss_seq (ss_if (rs_andc (rs_T (rs_isX rfl rfl (rs_asB ⟨fun z => (by cases z), fun _ => ⟨fun z => (by cases z), fun _ => ss_nx ?_⟩⟩)))))
    refine ss_seq (ss_if (rs_andc (rs_T (rs_isX rfl rfl (rs_asB ⟨fun z => (by cases z), fun _ => ⟨fun z => (by cases z), fun _ => ss_nx ?_⟩⟩)))))
    refine ss_seq (ss_if (rs_and (rs_T (rs_isX rfl rfl (rs_asB (rs_and (rs_not (rs_T (rs_isX rfl rfl (rs_asB (rs_not (rs_T (rs_isX rfl rfl (rs_asB ⟨fun _ => ?_, fun z => (by cases z)⟩))))))))))))))
    exact ss_ret (rs_tup (rs_cons (rs_c (rs_cons (rs_xf rfl rfl (rs_nil ⟨Nat.le_of_ble_eq_true rfl, rfl⟩)))))))
theorem same_w2 (n : Nat) (a b : List Nat) : F_l_same (n + 2) [.tup [wD a, wD b], .tup [wD a, wD b]] = .ok (.bl true) := same_tup (n + 1) _ (Nat.le_of_ble_eq_true rfl) fun d hd => by
  rcases List.mem_cons.mp hd with rfl | hd
  · exact same_str n _
  · rw [List.mem_singleton.mp hd]
    exact same_str n _
theorem same_due (o : Option (Nat × List Nat)) : F_l_same 4 [dueD o, dueD o] = .ok (.bl true) := by
  cases o with
  | none => exact same_w2 2 _ _
  | some x => exact same_w2 2 _ _
end
section
def NdR (R : List GR) : Prop := (R.map (·.k)).Nodup ∧ R.length ≤ 12 ∧ 0 < R.length ∧ (∀ r ∈ R, PyData.strOk (Sg r.k) = true) ∧ ∀ r ∈ R, r.inn.length ≤ 30
theorem len_eq (top : List Nat) (R : List GR) : F_Grammar_len [grD top R] = .ok (.int (R.length : Int)) := Rs.eq (by
  refine rs_run ?_
  unfold Fb_Grammar_len
  refine ss_ret (rs_call (rs_cons (rs_un (rs_var (d := grD top R) rfl (rs_fld (d := .lst (R.map fun r => wD r.k)) rfl (rs_nil (rs_lenL ?_)))))))
  rw [List.length_map])
theorem cont_eq (top : List Nat) (R : List GR) (w : List Nat) : F_Grammar_contains [grD top R, wD w] = .ok (.bl (fdR R w).isSome) := Rs.eq (by
  refine rs_run ?_
  unfold Fb_Grammar_contains
  exact ss_ret (rs_op (rs_var (d := wD w) rfl (rs_un (rs_var (d := grD top R) rfl (rs_fld (d := tbD R) rfl (rs_inR rfl)))))))
theorem item_eq (top : List Nat) {R : List GR} {r : GR} {w : List Nat} (h : fdR R w = some r) : F_Grammar_getitem [grD top R, wD w] = .ok (valR r) := Rs.eq (by
  refine rs_run ?_
  unfold Fb_Grammar_getitem
  refine ss_seq (ss_if (rs_T (rs_op (rs_var (d := wD w) rfl (rs_un (rs_var (d := grD top R) rfl (rs_fld (d := tbD R) rfl (rs_inR (rs_asB ⟨fun z => ?_, fun _ => ss_nx ?_⟩)))))))))
  · rw [h] at z; cases z
  exact ss_ret (rs_op (rs_un (rs_var (d := grD top R) rfl (rs_fld (d := tbD R) rfl (rs_var (d := wD w) rfl (rs_getR h rfl)))))))
theorem item_no (top : List Nat) {R : List GR} {w : List Nat} (h : fdR R w = none) : F_Grammar_getitem [grD top R, wD w] = .err "Unknown" (["kind"] : List Str) [wD w] := Rs.errEq (by
  refine rs_run ?_
  unfold Fb_Grammar_getitem
  refine ss_seq (ss_if (rs_T (rs_op (rs_var (d := wD w) rfl (rs_un (rs_var (d := grD top R) rfl (rs_fld (d := tbD R) rfl (rs_inR (rs_asB ⟨fun _ => ?_, fun z => ?_⟩)))))))))
  · exact ss_raise (rs_cons (rs_var (d := wD w) rfl (rs_nil ⟨rfl, rfl, rfl, rfl⟩)))
  · rw [h] at z; cases z)
def pairW (a b : List Nat) : D := .tup [wD a, wD b]
def LS (top : List Nat) (R : List GR) (st : List Nat) (P : List D) (x5 x7 x8 : Option D) : Rho := [some (grD top R), some (wD top), some (.lst (R.map rowD)), some (wD st), some (.lst (R.map fun r => wD r.k)), x5, some (.lst P), x7, x8, none]
theorem pairs_sp (top : List Nat) {R : List GR} (st : List Nat) (ok : NdR R) {Rt : D → Prop} {B C : Rho → Prop} {E : Rho → Str → List Str → List D → Prop} : Ss (forF (dIt (itO "Grammar" "order") (dVar 0)) (tgN 7) Lp_l_tells_2 (LS top R st [] none none none)) (fun s => ∃ P r x7 x8, s = LS top R st (P ++ [pairW r.k r.k]) none x7 x8 ∧ P.length + 1 = R.length * R.length ∧ R[R.length - 1]? = some r) Rt B C E := by
  obtain ⟨hd, hl, h0, _, _⟩ := ok
  have hlast : R[R.length - 1]? = some R[R.length - 1] := List.getElem?_eq_getElem (by omega)
  generalize R[R.length - 1] = rl at hlast
  refine ss_for (fun i s => ∃ P x7 x8, s = LS top R st P none x7 x8 ∧ P.length = i * R.length ∧ (0 < i → ∃ Q r, P = Q ++ [pairW r.k rl.k] ∧ R[i - 1]? = some r)) (rs_it (rs_var (d := grD top R) rfl (rs_itO (ds := R.map fun r => wD r.k) rfl ⟨⟨[], none, none, rfl, by simp, fun h => by omega⟩, fun i d s hi hs => ?_, fun s hs => ?_⟩)))
  · obtain ⟨P, x7, x8, rfl, hP, hPl⟩ := hs
    rw [List.getElem?_map] at hi
    cases hx : R[i]? with
    | none => rw [hx] at hi; cases hi
    | some x =>
      rw [hx] at hi
      cases hi
      have hilt : i < R.length := (List.getElem?_eq_some_iff.mp hx).1
      refine ⟨LS top R st P none (some (wD x.k)) x8, rfl, ?_⟩
      unfold Lp_l_tells_2
      refine ss_for (fun j s => ∃ P2 x8, s = LS top R st P2 none (some (wD x.k)) x8 ∧ P2.length = i * R.length + j ∧ (0 < j → ∃ Q r, P2 = Q ++ [pairW x.k r.k] ∧ R[j - 1]? = some r)) (rs_it (rs_var (d := grD top R) rfl (rs_itO (ds := R.map fun r => wD r.k) rfl ⟨⟨P, x8, rfl, hP, fun h => by omega⟩, fun j d s hj hs => ?_, fun s hs => ?_⟩)))
      · obtain ⟨P2, x8, rfl, hP2, _⟩ := hs
        rw [List.getElem?_map] at hj
        cases hy : R[j]? with
        | none => rw [hy] at hj; cases hj
        | some y =>
          rw [hy] at hj
          cases hj
          have hjlt : j < R.length := (List.getElem?_eq_some_iff.mp hy).1
          have hm : i * R.length ≤ 11 * 12 := Nat.mul_le_mul (by omega) hl
          refine ⟨LS top R st P2 none (some (wD x.k)) (some (wD y.k)), rfl, ?_⟩
          unfold Lp_l_tells_1
          refine ss_app (ds := P2) rfl (rs_tup (rs_cons (rs_var (d := wD x.k) rfl (rs_cons (rs_var (d := wD y.k) rfl (rs_nil ⟨Nat.le_of_ble_eq_true rfl, Nat.lt_of_lt_of_le (show _ < 100000 by omega) sz5, P2 ++ [pairW x.k y.k], _, rfl, by rw [List.length_append, hP2]; rfl, fun _ => ⟨P2, y, rfl, hy⟩⟩))))))
      · obtain ⟨P2, x8, rfl, hP2, hL2⟩ := hs
        rw [List.length_map] at hP2 hL2
        obtain ⟨Q, r, rfl, hr⟩ := hL2 h0
        rw [hlast] at hr
        cases hr
        exact ⟨_, some (wD x.k), x8, rfl, by rw [hP2, Nat.add_mul, Nat.one_mul], fun _ => ⟨Q, x, rfl, hx⟩⟩
  · obtain ⟨P, x7, x8, rfl, hP, hPl⟩ := hs
    rw [List.length_map] at hP hPl
    obtain ⟨Q, r, rfl, hr⟩ := hPl h0
    rw [hlast] at hr
    cases hr
    refine ⟨Q, rl, x7, x8, rfl, ?_, hlast⟩
    rw [← hP, List.length_append]
    rfl
theorem same_words (n : Nat) (R : List GR) (h : R.length ≤ 12) : F_l_same (n + 2) [.lst (R.map fun r => wD r.k), .lst (R.map fun r => wD r.k)] = .ok (.bl true) := same_lst (n + 1) _ (by rw [List.length_map]; omega) fun d hd => by
  obtain ⟨r, _, rfl⟩ := List.mem_map.mp hd
  exact same_str n _
theorem same_val (r : GR) (h : r.inn.length ≤ 30) : F_l_same 4 [valR r, valR r] = .ok (.bl true) := same_tup 3 _ (Nat.le_of_ble_eq_true rfl) fun d hd => by
  rcases List.mem_cons.mp hd with rfl | hd
  · exact same_str 2 _
  · rw [List.mem_singleton.mp hd]
    refine same_tup 2 _ (by rw [List.length_map]; omega) fun d hd => ?_
    obtain ⟨w, _, rfl⟩ := List.mem_map.mp hd
    exact same_str 1 _
theorem tells_eq (top : List Nat) {R : List GR} (st : List Nat) (ok : NdR R) (hst : st ∉ R.map (·.k)) : F_l_tells [grD top R, wD top, .lst (R.map rowD), wD st] = .ok (.bl true) := Rs.eq (by
  have ok0 := ok
  obtain ⟨hd, hl, h0, hso, hin⟩ := ok
  refine rs_run ?_
  unfold Fb_l_tells
  refine ss_seq (ss_set (rs_lc rowD (fun r : GR => wD r.k) R (rs_it (rs_var (d := .lst (R.map rowD)) rfl (rs_itsL rfl))) (Nat.le_trans (show _ ≤ 100000 by omega) sz5) (fun x hx => ⟨_, rfl, rfl, ?_⟩) ?_))
  · exact rs_op (rs_var (d := rowD x) rfl (rs_c (rs_ixT (d := wD x.k) (atI_nat (j := 0) rfl) rfl)))
  refine ss_seq (ss_if (rs_or (rs_not (rs_T (rs_call (rs_cons (rs_un (rs_var (d := grD top R) rfl (rs_fld (d := wD top) rfl (rs_cons (rs_var (d := wD top) rfl (rs_nil (Rs.of (same_str 3 top) (rs_asB ?_))))))))))))))
  refine rs_or (rs_T (rs_op (rs_call (rs_cons (rs_var (d := grD top R) rfl (rs_nil (rs_lenO (len_eq top R) ⟨by omega, by omega⟩ (rs_call (rs_cons (rs_var (d := .lst (R.map rowD)) rfl (rs_nil (rs_lenL ?_))))))))))))
  rw [List.length_map]
  refine rs_neI (rs_asB ?_)
  refine rs_not (rs_T (rs_call (rs_cons (rs_call (rs_cons (rs_var (d := grD top R) rfl (rs_nil (rs_listO (ds := R.map fun r => wD r.k) (es := R.map fun r => wD r.k) rfl rfl (Nat.le_trans (show _ ≤ 100000 by rw [List.length_map]; omega) sz5) (Nat.le_trans (show _ ≤ 100000 by rw [List.length_map]; omega) sz5) (rs_cons (rs_var (d := .lst (R.map fun r => wD r.k)) rfl (rs_nil (Rs.of (same_words 2 R hl) (rs_asB ⟨fun z => ?_, fun _ => ss_nx ?_⟩)))))))))))))
  · simp at z
  refine ss_seq (ss_set (rs_lst (rs_nil ⟨Nat.zero_le _, ?_⟩)))
  show Ss (seqF _ _ (LS top R st [] none none none)) _ _ _ _ _
  refine ss_seq (ss_cut _ (pairs_sp top st ok0) ?_)
  rintro _ ⟨P, rl, x7, x8, rfl, hP, hrl⟩
  have hrm := List.mem_of_getElem? hrl
  have hmul : R.length * R.length ≤ 12 * 12 := Nat.mul_le_mul hl hl
  have hkl : atI (R.map fun r => wD r.k) (-1) = some (wD rl.k) := by
    obtain ⟨A, x, rfl⟩ : ∃ A x, R = A ++ [x] := ⟨R.dropLast, R.getLast (fun q => by rw [q] at h0; simp at h0), (List.dropLast_concat_getLast _).symm⟩
    rw [List.length_append, List.length_singleton, Nat.add_sub_cancel, List.getElem?_append_right (Nat.le_refl _), Nat.sub_self] at hrl
    cases hrl
    rw [List.map_append]
    exact at_last _ _
  have klen : ∀ {x5 x7 x8 : Option D} {P : List D} {Q : D → Prop} {E : Str → List Str → List D → Prop}, Q (.int (R.length : Int)) → Rs (dCall (g1 lenD) (dCons (dVar 4) dNil) (LS top R st P x5 x7 x8)) Q E := fun q => rs_call (rs_cons (rs_var (d := .lst (R.map fun r => wD r.k)) rfl (rs_nil (rs_lenL (by rw [List.length_map]; exact q)))))
  have klast : ∀ {x5 x7 x8 : Option D} {P : List D} {Q : D → Prop} {E : Str → List Str → List D → Prop}, Q (wD rl.k) → Rs (dOp ixD (dVar 4) (dUn negD (dC (.int 1))) (LS top R st P x5 x7 x8)) Q E := fun q => rs_op (rs_var (d := .lst (R.map fun r => wD r.k)) rfl (rs_un (rs_c (rs_neg (rs_ixL hkl q)))))
  refine ss_seq (ss_if (rs_or (rs_T (rs_op (rs_call (rs_cons (rs_var (d := .lst (P ++ [pairW rl.k rl.k])) rfl (rs_nil (rs_lenL (rs_op (klen (klen (rs_mul (Or.inl (small_of (by omega) (by omega))) (rs_neI (rs_asB ?_)))))))))))))))
  refine rs_T (rs_op (rs_op (rs_var (d := .lst (P ++ [pairW rl.k rl.k])) rfl (rs_un (rs_c (rs_neg (rs_ixL (at_last _ _) (rs_tup (rs_cons (klast (rs_cons (klast (rs_nil ⟨Nat.le_of_ble_eq_true rfl, ?_⟩)))))))))))))
  refine rs_neC (a := (rl.k, rl.k)) (b := (rl.k, rl.k)) (cd_p2 cd_str cd_str) (by decide) ⟨hso _ hrm, hso _ hrm⟩ ⟨hso _ hrm, hso _ hrm⟩ rfl (rs_asB ⟨fun z => ?_, fun _ => ss_nx ?_⟩)
  · have e : ((P ++ [pairW rl.k rl.k]).length : Int) = (R.length : Int) * (R.length : Int) := by
      rw [List.length_append, ← Int.natCast_mul, ← hP]
      rfl
    rw [decide_eq_true e] at z
    simp at z
  refine ss_seq (ss_each rowD R (fun i s => ∃ x5, s = LS top R st (P ++ [pairW rl.k rl.k]) x5 x7 x8) (rs_var rfl rfl) ⟨none, rfl⟩ ?_ ?_)
  · rintro i x s hx ⟨x5, rfl⟩
    have hxm := List.mem_of_getElem? hx
    have hf := fdR_mem hd hxm
    show Ss (Lp_l_tells_3 (LS top R st (P ++ [pairW rl.k rl.k]) (some (rowD x)) x7 x8)) _ _ _ _ _
    unfold Lp_l_tells_3
    have k0 : ∀ {Q : D → Prop} {E : Str → List Str → List D → Prop}, Q (wD x.k) → Rs (dOp ixD (dVar 5) (dC (.int 0)) (LS top R st (P ++ [pairW rl.k rl.k]) (some (rowD x)) x7 x8)) Q E := fun q => rs_op (rs_var (d := rowD x) rfl (rs_c (rs_ixT (d := wD x.k) (atI_nat (j := 0) rfl) q)))
    refine ss_if (rs_or (rs_T (rs_op (k0 (rs_var (d := grD top R) rfl (rs_inO (cont_eq top R x.k) (rs_asB ?_)))))))
    refine rs_not (rs_T (rs_call (rs_cons (rs_op (rs_var (d := grD top R) rfl (k0 (rs_getO (Rs.of (item_eq top hf) (rs_cons (rs_tup (rs_cons (rs_op (rs_var (d := rowD x) rfl (rs_c (rs_ixT (d := wD x.ro) (atI_nat (j := 1) rfl) (rs_cons (rs_op (rs_var (d := rowD x) rfl (rs_c (rs_ixT (d := .tup (x.inn.map wD)) (atI_nat (j := 2) rfl) (rs_nil ⟨Nat.le_of_ble_eq_true rfl, rs_nil (Rs.of (same_val x (hin x hxm)) (rs_asB ⟨fun z => ?_, fun _ => ss_nx ⟨_, rfl⟩⟩))⟩)))))))))))))))))))))
    rw [hf] at z
    simp at z
  rintro s ⟨x5, rfl⟩
  have hno := fdR_none.mpr hst
  refine ss_seq (ss_if (rs_T (rs_op (rs_var (d := wD st) rfl (rs_var (d := grD top R) rfl (rs_inO (cont_eq top R st) (rs_asB ⟨fun z => ?_, fun _ => ss_nx ?_⟩)))))))
  · rw [hno] at z; cases z
  refine ss_seq (ss_try (ss_app (ds := P ++ [pairW rl.k rl.k]) rfl (rs_op (rs_var (d := grD top R) rfl (rs_var (d := wD st) rfl (rs_getO (Rs.ofE (item_no top hno) ⟨rfl, ?_⟩)))))))
  exact ss_ret (rs_call (rs_cons (rs_call (rs_cons (rs_var (d := .obj (xN 1) (["kind"] : List Str) [wD st]) rfl (rs_nil (Rs.of (error_eq 1 (by omega) st) (rs_cons (rs_tup (rs_cons (rs_c (rs_cons (rs_var (d := wD st) rfl (rs_nil ⟨Nat.le_of_ble_eq_true rfl, rs_nil (Rs.of (same_due (some (1, st))) rfl)⟩)))))))))))))))
end
section
theorem put_sp (inn : List (List Nat)) (z : Int) (w : List Nat) (hl : inn.length ≤ 30) : Rs (F_l_put [.tup (inn.map wD), .int z, wD w]) (fun d => ∃ inn' : List (List Nat), d = .tup (inn'.map wD) ∧ inn'.length ≤ inn.length + 1 ∧ ∀ x ∈ inn', x ∈ inn ∨ x = w) nE := by
  refine rs_run ?_
  unfold Fb_l_put
  refine ss_seq (ss_if (rs_T (rs_op (rs_var (d := wD w) rfl (rs_var (d := .tup (inn.map wD)) rfl (rs_inWT inn (rs_asB ⟨fun _ => ?_, fun _ => ss_nx ?_⟩)))))))
  · exact ss_ret (rs_var (d := .tup (inn.map wD)) rfl ⟨inn, rfl, Nat.le_succ _, fun x hx => .inl hx⟩)
  refine ss_seq (ss_set (rs_op (rs_call (rs_cons (rs_var (d := .int z) rfl (rs_nil (rs_int (rs_op (rs_call (rs_cons (rs_var (d := .tup (inn.map wD)) rfl (rs_nil (rs_lenT (rs_c (rs_add ?_)))))))))))))))
  rw [List.length_map]
  refine rs_mod (by omega) ?_
  have m0 : 0 ≤ z % ((inn.length : Int) + 1) := Int.emod_nonneg _ (by omega)
  obtain ⟨a, ha⟩ := Int.eq_ofNat_of_zero_le m0
  rw [ha]
  refine ss_ret (rs_op (rs_op (rs_sl (rs_var (d := .tup (inn.map wD)) rfl (rs_noP (rs_part (rs_var (d := .int (a : Int)) rfl (rs_asI (rs_slT ?_)))))))))
  rw [cut_take]
  refine rs_tup (rs_cons (rs_var (d := wD w) rfl (rs_nil ⟨Nat.le_of_ble_eq_true rfl, rs_addT (Nat.le_trans (show _ ≤ 100000 from ?_) sz5) (rs_sl (rs_var (d := .tup (inn.map wD)) rfl (rs_part (rs_var (d := .int (a : Int)) rfl (rs_asI (rs_noP (rs_slT ?_)))))))⟩)))
  · rw [List.length_take, List.length_map]; show _ + 1 ≤ _; omega
  rw [cut_drop]
  refine rs_addT (Nat.le_trans (show _ ≤ 100000 from ?_) sz5) ⟨inn.take a ++ [w] ++ inn.drop a, ?_, ?_, fun x hx => ?_⟩
  · rw [List.length_append, List.length_take, List.length_drop, List.length_map]; show _ + 1 + _ ≤ _; omega
  · rw [List.map_append, List.map_append, List.map_take, List.map_drop]; rfl
  · rw [List.length_append, List.length_append, List.length_take, List.length_drop]; show _ + 1 + _ ≤ _; omega
  · rcases List.mem_append.mp hx with hx | hx
    · rcases List.mem_append.mp hx with hx | hx
      · exact .inl (List.mem_of_mem_take hx)
      · exact .inr (List.mem_singleton.mp hx)
    · exact .inl (List.mem_of_mem_drop hx)
def LC : List Int := [4] ++ (List.replicate 3 [(6 : Int), 12, 12, 12]).flatten
/-- the rows after n changes -/
def CR (K : List (List Nat)) (m n : Nat) (R : List GR) : Prop := R.length = m ∧ ∀ r ∈ R, r.k ∈ K ∧ r.ro ∈ ROLES ∧ r.inn.length ≤ 12 + n ∧ ∀ w ∈ r.inn, PyData.strOk (Sg w) = true
theorem CR.set {K : List (List Nat)} {m n : Nat} {R : List GR} (h : CR K m n R) {r : GR} (a : Nat) (hr : r.k ∈ K ∧ r.ro ∈ ROLES ∧ r.inn.length ≤ 12 + (n + 1) ∧ ∀ w ∈ r.inn, PyData.strOk (Sg w) = true) : CR K m (n + 1) (R.set a r) := by
  refine ⟨by rw [List.length_set]; exact h.1, fun x hx => ?_⟩
  rcases List.mem_or_eq_of_mem_set hx with hx | hx
  · obtain ⟨h1, h2, h3, h4⟩ := h.2 x hx
    exact ⟨h1, h2, by omega, h4⟩
  · rw [hx]; exact hr
theorem CR.up {K : List (List Nat)} {m n : Nat} {R : List GR} (h : CR K m n R) : CR K m (n + 1) R := by
  refine ⟨h.1, fun x hx => ?_⟩
  obtain ⟨h1, h2, h3, h4⟩ := h.2 x hx
  exact ⟨h1, h2, by omega, h4⟩
def CS (top : List Nat) (R : List GR) (vs : List Int) (st : List Nat) (x5 x6 x7 x8 x9 x10 x11 x12 : Option D) : Rho := [some (wD top), some (.lst (R.map rowD)), some (iL vs), some (wD st), some (.lst (ROLES.map wD)), x5, x6, x7, x8, x9, x10, x11, x12]
theorem changed_body (K : List (List Nat)) (hK : ∀ w ∈ K, PyData.strOk (Sg w) = true) (st : List Nat) (hst : PyData.strOk (Sg st) = true) {vs : List Int} (hf : Fit vs LC) {m n : Nat} (hm : 0 < m ∧ m ≤ 12) (hn : n < 3) {R : List GR} (h : CR K m n R) (top : List Nat) (x6 x7 x8 x9 x10 x11 x12 : Option D) {Rt : D → Prop} {B : Rho → Prop} {E : Rho → Str → List Str → List D → Prop} :
    Ss (Lp_l_changed_1 (CS top R vs st (some (.int (n : Int))) x6 x7 x8 x9 x10 x11 x12)) (fun s => ∃ top R x5 x6 x7 x8 x9 x10 x11 x12, s = CS top R vs st x5 x6 x7 x8 x9 x10 x11 x12 ∧ CR K m (n + 1) R) Rt B (fun _ => False) E := by
  have hRl : R.length = m := h.1
  unfold Lp_l_changed_1
  have l1 : LC[4 * n + 1]? = some 6 := (by decide : ∀ n < 3, LC[4 * n + 1]? = some 6) n hn
  have l2 : LC[4 * n + 2]? = some 12 := (by decide : ∀ n < 3, LC[4 * n + 2]? = some 12) n hn
  have l3 : LC[4 * n + 3]? = some 12 := (by decide : ∀ n < 3, LC[4 * n + 3]? = some 12) n hn
  have l4 : LC[4 * n + 4]? = some 12 := (by decide : ∀ n < 3, LC[4 * n + 4]? = some 12) n hn
  have ad : ∀ {j : Nat} {x6 x7 x8 x9 x10 x11 x12 : Option D} {Q : D → Prop} {E : Str → List Str → List D → Prop}, Q (.int (4 * (n : Int) + (j : Int))) → Rs (dOp addD (dOp mulX (dC (.int 4)) (dVar 5)) (dC (.int (j : Int))) (CS top R vs st (some (.int (n : Int))) x6 x7 x8 x9 x10 x11 x12)) Q E := fun q => rs_op (rs_op (rs_c (rs_var (d := .int (n : Int)) rfl (rs_mul (Or.inl (small_of (by omega) (by omega))) (rs_c (rs_add q))))))
  refine ss_seq (ss_par (rs_op (rs_var (d := iL vs) rfl (ad (j := 1) (ix_row (k := 4 * n + 1) hf l1 (by omega) fun way _ w0 w1 => ?_)))))
  refine rs_op (rs_var (d := iL vs) rfl (ad (j := 4) (ix_row (k := 4 * n + 4) hf l4 (by omega) fun spot _ s0 s1 => ?_)))
  refine ss_seq (ss_set (rs_op (rs_call (rs_cons (rs_op (rs_var (d := iL vs) rfl (ad (j := 2) (ix_row (k := 4 * n + 2) hf l2 (by omega) fun a _ a0 a1 => ?_))))))))
  refine rs_nil (rs_int (rs_call (rs_cons (rs_var (d := .lst (R.map rowD)) rfl (rs_nil (rs_lenL ?_))))))
  rw [List.length_map]
  refine rs_mod (by omega) ?_
  refine ss_seq (ss_set (rs_op (rs_call (rs_cons (rs_op (rs_var (d := iL vs) rfl (ad (j := 3) (ix_row (k := 4 * n + 3) hf l3 (by omega) fun b _ b0 b1 => ?_))))))))
  refine rs_nil (rs_int (rs_call (rs_cons (rs_var (d := .lst (R.map rowD)) rfl (rs_nil (rs_lenL ?_))))))
  rw [List.length_map]
  refine rs_mod (by omega) ?_
  have pa : 0 ≤ a % (R.length : Int) := Int.emod_nonneg _ (by omega)
  have qa : a % (R.length : Int) < R.length := Int.emod_lt_of_pos _ (by omega)
  have pb : 0 ≤ b % (R.length : Int) := Int.emod_nonneg _ (by omega)
  have qb : b % (R.length : Int) < R.length := Int.emod_lt_of_pos _ (by omega)
  obtain ⟨i, hi⟩ := Int.eq_ofNat_of_zero_le pa
  obtain ⟨j, hj⟩ := Int.eq_ofNat_of_zero_le pb
  rw [hi] at qa
  rw [hj] at qb
  rw [hi, hj]
  have hil : i < R.length := by omega
  have hjl : j < R.length := by omega
  have ei : R[i]? = some R[i] := List.getElem?_eq_getElem hil
  have ej : R[j]? = some R[j] := List.getElem?_eq_getElem hjl
  generalize R[i] = ri at ei
  generalize R[j] = rj at ej
  obtain ⟨i1, i2, i3, i4⟩ := h.2 ri (List.mem_of_getElem? ei)
  obtain ⟨j1, j2, j3, j4⟩ := h.2 rj (List.mem_of_getElem? ej)
  have ati : atI (R.map rowD) (i : Int) = some (rowD ri) := atI_nat (by rw [List.getElem?_map, ei]; rfl)
  have atj : atI (R.map rowD) (j : Int) = some (rowD rj) := atI_nat (by rw [List.getElem?_map, ej]; rfl)
  show Ss (seqF _ _ (CS top R vs st (some (.int (n : Int))) (some (.int way)) (some (.int spot)) (some (.int (i : Int))) (some (.int (j : Int))) x10 x11 x12)) _ _ _ _ _
  refine ss_seq (ss_asg (rs_op (rs_var (d := .lst (R.map rowD)) rfl (rs_var (d := .int (i : Int)) rfl (rs_ixL ati ⟨CS top R vs st (some (.int (n : Int))) (some (.int way)) (some (.int spot)) (some (.int (i : Int))) (some (.int (j : Int))) (some (wD ri.k)) (some (wD ri.ro)) (some (.tup (ri.inn.map wD))), rfl, ?_⟩)))))
  have fin : ∀ (r : GR), (r.k ∈ K ∧ r.ro ∈ ROLES ∧ r.inn.length ≤ 12 + (n + 1) ∧ ∀ w ∈ r.inn, PyData.strOk (Sg w) = true) → ∃ top' R' x5 x6 x7 x8 x9 x10 x11 x12, List.set (CS top R vs st (some (.int (n : Int))) (some (.int way)) (some (.int spot)) (some (.int (i : Int))) (some (.int (j : Int))) (some (wD ri.k)) (some (wD ri.ro)) (some (.tup (ri.inn.map wD)))) 1 (some (.lst ((R.map rowD).set i (rowD r)))) = CS top' R' vs st x5 x6 x7 x8 x9 x10 x11 x12 ∧ CR K m (n + 1) R' := fun r hr => ⟨top, R.set i r, _, _, _, _, _, _, _, _, by rw [← List.map_set]; rfl, h.set i hr⟩
  have hix : ixN (R.map rowD).length (i : Int) = some i := by rw [List.length_map]; exact ixN_nat hil
  have kj : ∀ {Q : D → Prop} {E : Str → List Str → List D → Prop}, Q (wD rj.k) → Rs (dOp ixD (dOp ixD (dVar 1) (dVar 9)) (dC (.int 0)) (CS top R vs st (some (.int (n : Int))) (some (.int way)) (some (.int spot)) (some (.int (i : Int))) (some (.int (j : Int))) (some (wD ri.k)) (some (wD ri.ro)) (some (.tup (ri.inn.map wD))))) Q E := fun q => rs_op (rs_op (rs_var (d := .lst (R.map rowD)) rfl (rs_var (d := .int (j : Int)) rfl (rs_ixL atj (rs_c (rs_ixT (d := wD rj.k) (atI_nat (j := 0) rfl) q))))))
  refine ss_if (rs_T (rs_op (rs_var (d := .int way) rfl (rs_c (rs_eqI (rs_asB ⟨fun _ => ?_, fun _ => ?_⟩))))))
  · exact ss_sto (n := i) (k := (i : Int)) (ds := R.map rowD) (rs_tup (rs_cons (kj (rs_cons (rs_var (d := wD ri.ro) rfl (rs_cons (rs_var (d := .tup (ri.inn.map wD)) rfl (rs_nil ⟨Nat.le_of_ble_eq_true rfl, rfl, rs_var (d := .int (i : Int)) rfl ⟨rfl, hix, fin ⟨rj.k, ri.ro, ri.inn⟩ ⟨j1, i2, by show ri.inn.length ≤ _; omega, i4⟩⟩⟩))))))))
  refine ss_if (rs_T (rs_op (rs_var (d := .int way) rfl (rs_c (rs_eqI (rs_asB ⟨fun _ => ?_, fun _ => ?_⟩))))))
  · obtain ⟨_, ep, inn, rfl, hp1, hp2⟩ := (put_sp ri.inn spot st (by omega)).get
    exact ss_sto (n := i) (k := (i : Int)) (ds := R.map rowD) (rs_tup (rs_cons (rs_var (d := wD ri.k) rfl (rs_cons (rs_var (d := wD ri.ro) rfl (rs_cons (rs_call (rs_cons (rs_var (d := .tup (ri.inn.map wD)) rfl (rs_cons (rs_var (d := .int spot) rfl (rs_cons (rs_var (d := wD st) rfl (rs_nil (Rs.of ep (rs_nil ⟨Nat.le_of_ble_eq_true rfl, rfl, rs_var (d := .int (i : Int)) rfl ⟨rfl, hix, fin ⟨ri.k, ri.ro, inn⟩ ⟨i1, i2, by show inn.length ≤ _; omega, fun w hw => (hp2 w hw).elim (i4 w) fun e => by rw [e]; exact hst⟩⟩⟩))))))))))))))))
  refine ss_if (rs_T (rs_op (rs_var (d := .int way) rfl (rs_c (rs_eqI (rs_asB ⟨fun _ => ?_, fun _ => ?_⟩))))))
  · obtain ⟨_, ep, inn, rfl, hp1, hp2⟩ := (put_sp ri.inn spot rj.k (by omega)).get
    exact ss_sto (n := i) (k := (i : Int)) (ds := R.map rowD) (rs_tup (rs_cons (rs_var (d := wD ri.k) rfl (rs_cons (rs_var (d := wD ri.ro) rfl (rs_cons (rs_call (rs_cons (rs_var (d := .tup (ri.inn.map wD)) rfl (rs_cons (rs_var (d := .int spot) rfl (rs_cons (kj (rs_nil (Rs.of ep (rs_nil ⟨Nat.le_of_ble_eq_true rfl, rfl, rs_var (d := .int (i : Int)) rfl ⟨rfl, hix, fin ⟨ri.k, ri.ro, inn⟩ ⟨i1, i2, by show inn.length ≤ _; omega, fun w hw => (hp2 w hw).elim (i4 w) fun e => by rw [e]; exact hK _ j1⟩⟩⟩))))))))))))))))
  refine ss_if (rs_T (rs_op (rs_var (d := .int way) rfl (rs_c (rs_eqI (rs_asB ⟨fun _ => ?_, fun _ => ?_⟩))))))
  · have t0 : 0 ≤ spot % 7 := Int.emod_nonneg _ (by omega)
    have t1 : spot % 7 < 7 := Int.emod_lt_of_pos _ (by omega)
    have hlt : (spot % 7).toNat < ROLES.length := by show _ < 7; omega
    have har : atI (ROLES.map wD) (spot % 7) = some (wD ROLES[(spot % 7).toNat]) := at_pos t0 (by rw [List.getElem?_map, List.getElem?_eq_getElem hlt]; rfl)
    have hmr := List.getElem_mem hlt
    generalize ROLES[(spot % 7).toNat] = ro at har hmr
    exact ss_sto (n := i) (k := (i : Int)) (ds := R.map rowD) (rs_tup (rs_cons (rs_var (d := wD ri.k) rfl (rs_cons (rs_op (rs_var (d := .lst (ROLES.map wD)) rfl (rs_op (rs_call (rs_cons (rs_var (d := .int spot) rfl (rs_nil (rs_int (rs_c (rs_mod (by omega) (rs_ixL har (rs_cons (rs_var (d := .tup (ri.inn.map wD)) rfl (rs_nil ⟨Nat.le_of_ble_eq_true rfl, rfl, rs_var (d := .int (i : Int)) rfl ⟨rfl, hix, fin ⟨ri.k, ro, ri.inn⟩ ⟨i1, hmr, by show ri.inn.length ≤ _; omega, i4⟩⟩⟩))))))))))))))))))
  refine ss_if (rs_T (rs_op (rs_var (d := .int way) rfl (rs_c (rs_eqI (rs_asB ⟨fun _ => ?_, fun _ => ?_⟩))))))
  · refine ss_set (rs_op (rs_lst (rs_cons (rs_var (d := wD st) rfl (rs_cons (kj (rs_nil ⟨Nat.le_of_ble_eq_true rfl, ?_⟩)))))))
    refine rs_call (rs_cons (rs_op (rs_var (d := .int spot) rfl (rs_c (rs_gt (rs_nil (rs_intB ?_)))))))
    by_cases hsp : (2 : Int) < spot
    · rw [decide_eq_true hsp]
      exact rs_ixL (d := wD rj.k) (atI_nat (j := 1) rfl) ⟨rj.k, R, _, _, _, _, _, _, _, _, rfl, h.up⟩
    · rw [decide_eq_false hsp]
      exact rs_ixL (d := wD st) (atI_nat (j := 0) rfl) ⟨st, R, _, _, _, _, _, _, _, _, rfl, h.up⟩
  · refine ss_seq (ss_sto (n := i) (k := (i : Int)) (ds := R.map rowD) (rs_op (rs_var (d := .lst (R.map rowD)) rfl (rs_var (d := .int (j : Int)) rfl (rs_ixL atj ⟨rfl, rs_var (d := .int (i : Int)) rfl ⟨rfl, hix, ?_⟩⟩)))))
    rw [← List.map_set]
    show Ss _ _ _ _ _ _
    refine ss_sto (n := j) (k := (j : Int)) (ds := (R.set i rj).map rowD) (rs_tup (rs_cons (rs_var (d := wD ri.k) rfl (rs_cons (rs_var (d := wD ri.ro) rfl (rs_cons (rs_var (d := .tup (ri.inn.map wD)) rfl (rs_nil ⟨Nat.le_of_ble_eq_true rfl, rfl, rs_var (d := .int (j : Int)) rfl ⟨rfl, by rw [List.length_map, List.length_set]; exact ixN_nat hjl, ?_⟩⟩))))))))
    have h2 : CR K m n (R.set i rj) := by
      refine ⟨by rw [List.length_set]; exact hRl, fun x hx => ?_⟩
      rcases List.mem_or_eq_of_mem_set hx with hx | hx
      · exact h.2 x hx
      · rw [hx]; exact ⟨j1, j2, j3, j4⟩
    refine ⟨top, (R.set i rj).set j ri, some (.int (n : Int)), some (.int way), some (.int spot), some (.int (i : Int)), some (.int (j : Int)), some (wD ri.k), some (wD ri.ro), some (.tup (ri.inn.map wD)), ?_, h2.set j ⟨i1, i2, by omega, i4⟩⟩
    show List.set _ 1 (some (D.lst (((R.set i rj).map rowD).set j (rowD ri)))) = _
    rw [← List.map_set]
    rfl
theorem changed_sp (K : List (List Nat)) (hK : ∀ w ∈ K, PyData.strOk (Sg w) = true) (st : List Nat) (hst : PyData.strOk (Sg st) = true) {vs : List Int} (hf : Fit vs LC) {m : Nat} (hm : 0 < m ∧ m ≤ 12) {R : List GR} (h : CR K m 0 R) (top : List Nat) : Rs (F_l_changed [wD top, .lst (R.map rowD), iL vs, wD st]) (fun d => ∃ top' R', d = .tup [wD top', .lst (R'.map rowD)] ∧ CR K m 3 R') nE := by
  refine rs_run ?_
  unfold Fb_l_changed
  refine ss_seq (ss_set (rs_call (rs_cons (rs_var (d := .lst (R.map rowD)) rfl (rs_nil (rs_listL ?_))))))
  refine ss_seq (ss_set (rs_lst (rs_cons (rs_c (rs_cons (rs_c (rs_cons (rs_c (rs_cons (rs_c (rs_cons (rs_c (rs_cons (rs_c (rs_cons (rs_c (rs_nil ⟨Nat.le_of_ble_eq_true rfl, ?_⟩)))))))))))))))))
  show Ss (seqF _ _ (CS top R vs st none none none none none none none none)) _ _ _ _ _
  obtain ⟨v0, hv0, a0, b0⟩ := hf.get (show LC[0]? = some 4 from rfl)
  obtain ⟨n, rfl⟩ := Int.eq_ofNat_of_zero_le a0
  have hx0 : atI (vs.map D.int) 0 = some (.int (n : Int)) := atI_nat (j := 0) (by rw [List.getElem?_map, hv0]; rfl)
  refine ss_seq (ss_rng n (fun k s => ∃ top R x5 x6 x7 x8 x9 x10 x11 x12, s = CS top R vs st x5 x6 x7 x8 x9 x10 x11 x12 ∧ CR K m k R) (rs_op (rs_var (d := iL vs) rfl (rs_c (rs_ixL hx0 rfl)))) (by omega) ⟨top, R, none, none, none, none, none, none, none, none, rfl, h⟩ ?_ ?_)
  · rintro k s hk ⟨top, R, x5, x6, x7, x8, x9, x10, x11, x12, rfl, h⟩
    exact ss_cut _ ((changed_body K hK st hst hf hm (show k < 3 by omega) h top x6 x7 x8 x9 x10 x11 x12 (B := _) (Rt := _) (E := _)).imp (fun _ z => z) (fun _ z => z) (fun _ z => z) (fun _ z => z.elim) fun _ _ _ _ z => z) fun _ z => z
  · rintro s ⟨top, R, x5, x6, x7, x8, x9, x10, x11, x12, rfl, h⟩
    refine ss_ret (rs_tup (rs_cons (rs_var (d := wD top) rfl (rs_cons (rs_var (d := .lst (R.map rowD)) rfl (rs_nil ⟨Nat.le_of_ble_eq_true rfl, top, R, rfl, h.1, fun r hr => ?_⟩))))))
    obtain ⟨h1, h2, h3, h4⟩ := h.2 r hr
    exact ⟨h1, h2, by omega, h4⟩
end
section
theorem strOk_of {w : List Nat} (h : ∀ c ∈ w, c < 1114112) : PyData.strOk (Sg w) = true := by
  unfold PyData.strOk
  rw [Array.all_eq_true']
  intro n hn
  have hn : n ∈ w := by simpa using hn
  have := h n hn
  simp
  omega
def okW (r : GR) : Prop := PyData.strOk (Sg r.k) = true ∧ PyData.strOk (Sg r.ro) = true ∧ ∀ w ∈ r.inn, PyData.strOk (Sg w) = true
theorem roles_ok : ∀ w ∈ ROLES, PyData.strOk (Sg w) = true := fun w hw => strOk_of ((by decide : ∀ w ∈ ROLES, ∀ c ∈ w, c < 1114112) w hw)
theorem rows_cd : ∃ n py, n ≤ 8 ∧ Cd (fun R : List GR => ∀ r ∈ R, okW r) (fun R => D.lst (R.map rowD)) n py := by
  have c := cd_lst ((cd_p3 (cd_str.up (by decide : 0 ≤ 1)) (cd_str.up (by decide : 0 ≤ 1)) (cd_tup cd_str)).comp (fun r : GR => (r.k, r.ro, r.inn)) (fun a b h => by
    cases a; cases b
    simp only [Prod.mk.injEq] at h
    obtain ⟨rfl, rfl, rfl⟩ := h
    rfl))
  exact ⟨_, _, (by decide : _ ≤ 8), c⟩
theorem rs_eqR {R : List GR} (h : ∀ r ∈ R, okW r) {Q : D → Prop} {E : Str → List Str → List D → Prop} (q : Q (.bl true)) : Rs (eqD (.lst (R.map rowD)) (.lst (R.map rowD))) Q E := by
  obtain ⟨n, py, hn, c⟩ := rows_cd
  refine rs_eqC (f := fun R : List GR => D.lst (R.map rowD)) c (by omega) h h rfl ?_
  rw [decide_eq_true rfl]
  exact q
theorem rs_neR {R : List GR} (h : ∀ r ∈ R, okW r) {Q : D → Prop} {E : Str → List Str → List D → Prop} (q : Q (.bl false)) : Rs (neD (.lst (R.map rowD)) (.lst (R.map rowD))) Q E := by
  obtain ⟨n, py, hn, c⟩ := rows_cd
  refine rs_neC (f := fun R : List GR => D.lst (R.map rowD)) c (by omega) h h rfl ?_
  rw [decide_eq_true rfl]
  exact q
theorem asked_eq (top : List Nat) {R : List GR} (st : List Nat) (ok : RwOk R) (h0 : 0 < R.length) (hw : ∀ r ∈ R, okW r) (hst : st ∉ R.map (·.k)) : F_l_asked [wD top, .lst (R.map rowD), wD st] = .ok (.bl true) := Rs.eq (by
  have hl := ok.1
  have hdue := due_eq (top := top) ok
  refine rs_run ?_
  unfold Fb_l_asked
  refine ss_seq (ss_set (rs_call (rs_cons (rs_var (d := .lst (R.map rowD)) rfl (rs_nil (rs_listL ?_))))))
  refine ss_seq (ss_try (ss_set (rs_call (rs_cons (rs_var (d := wD top) rfl (rs_cons (rs_var (d := .lst (R.map rowD)) rfl (rs_nil ((init_sp (top := top) ok).impE ?_ ?_)))))))))
  · rintro d ⟨rfl, hnone, hnd⟩
    rw [hnone] at hdue
    have okN : NdR R := ⟨hnd, hl, h0, fun r hr => (hw r hr).1, fun r hr => (ok.2 r hr).2⟩
    have htell := tells_eq top st okN hst
    refine ss_seq (ss_if (rs_or (rs_T (rs_op (rs_call (rs_cons (rs_var (d := wD top) rfl (rs_cons (rs_var (d := .lst (R.map rowD)) rfl (rs_nil (Rs.of hdue (rs_tup (rs_cons (rs_c (rs_cons (rs_c (rs_nil ⟨Nat.le_of_ble_eq_true rfl, ?_⟩)))))))))))))))))
    refine rs_neC (a := ([103, 111, 111, 100], [])) (b := ([103, 111, 111, 100], [])) (cd_p2 cd_str cd_str) (by decide) ⟨strOk_of (by decide), strOk_of (by decide)⟩ ⟨strOk_of (by decide), strOk_of (by decide)⟩ rfl (rs_asB ?_)
    refine rs_or (rs_T (rs_op (rs_var (d := .lst (R.map rowD)) rfl (rs_var (d := .lst (R.map rowD)) rfl (rs_neR hw (rs_asB ?_))))))
    refine rs_not (rs_T (rs_call (rs_cons (rs_var (d := grD top R) rfl (rs_cons (rs_var (d := wD top) rfl (rs_cons (rs_var (d := .lst (R.map rowD)) rfl (rs_cons (rs_var (d := wD st) rfl (rs_nil (Rs.of htell (rs_asB ⟨fun z => ?_, fun _ => ss_nx ?_⟩)))))))))))))
    · simp at z
    obtain ⟨r0, e0⟩ : ∃ r0, R[0]? = some r0 := ⟨R[0], List.getElem?_eq_getElem h0⟩
    have at0 : atI (R.map rowD) 0 = some (rowD r0) := atI_nat (j := 0) (by rw [List.getElem?_map, e0]; rfl)
    refine ss_seq (ss_sto (n := 0) (k := 0) (ds := R.map rowD) (rs_tup (rs_cons (rs_var (d := wD st) rfl (rs_cons (rs_c (rs_cons (rs_tup (rs_nil ⟨Nat.zero_le _, rs_nil ⟨Nat.le_of_ble_eq_true rfl, rfl, rs_c ⟨rfl, by rw [List.length_map]; exact ixN_nat (k := 0) h0, ?_⟩⟩⟩)))))))))
    refine ss_seq (ss_app (ds := (R.map rowD).set 0 (.tup [wD st, .str (Sg [114, 101, 102]), .tup []])) rfl (rs_tup (rs_cons (rs_op (rs_op (rs_var (d := .lst (R.map rowD)) rfl (rs_c (rs_ixL at0 (rs_c (rs_ixT (d := wD r0.k) (atI_nat (j := 0) rfl) (rs_cons (rs_c (rs_cons (rs_tup (rs_cons (rs_var (d := wD st) rfl (rs_nil ⟨Nat.le_of_ble_eq_true rfl, rs_nil ⟨Nat.le_of_ble_eq_true rfl, Nat.lt_of_lt_of_le (show _ < 100000 by rw [List.length_set, List.length_map]; omega) sz5, ?_⟩⟩)))))))))))))))))
    exact ss_ret (rs_call (rs_cons (rs_var (d := grD top R) rfl (rs_cons (rs_var (d := wD top) rfl (rs_cons (rs_var (d := .lst (R.map rowD)) rfl (rs_cons (rs_var (d := wD st) rfl (rs_nil (Rs.of htell rfl)))))))))))
  · rintro n ns vs ⟨t, w, ht, hsome, rfl, rfl, rfl⟩
    rw [hsome] at hdue
    refine ⟨?_, ?_⟩
    · match t, ht with
      | 0, _ => rfl
      | 1, _ => rfl
      | 2, _ => rfl
    refine ss_ret (rs_andV (rs_call (rs_cons (rs_call (rs_cons (rs_var (d := .obj (xN t) (["kind"] : List Str) [wD w]) rfl (rs_nil (Rs.of (error_eq t ht w) (rs_cons (rs_call (rs_cons (rs_var (d := wD top) rfl (rs_cons (rs_var (d := .lst (R.map rowD)) rfl (rs_nil (Rs.of hdue (rs_nil (Rs.of (same_due (some (t, w))) (rs_asB ?_)))))))))))))))))))
    exact rs_op (rs_var (d := .lst (R.map rowD)) rfl (rs_var (d := .lst (R.map rowD)) rfl (rs_eqR hw (rs_asB rfl)))))
end
section
def wDoc : List Nat := [100, 111, 99]
def UR : List GR := [⟨wDoc, wRt, [wHead, [112, 97, 114]]⟩, ⟨wHead, wHead, [[101, 109], [115, 101, 101]]⟩, ⟨[112, 97, 114], wBlock, [[101, 109], wNote, [102, 105, 103], [115, 101, 101]]⟩, ⟨[101, 109], wSpan, [[101, 109], [115, 101, 101]]⟩, ⟨wNote, wNote, [[101, 109]]⟩, ⟨[102, 105, 103], wFig, [[101, 109]]⟩, ⟨[115, 101, 101], wRef, []⟩]
theorem all_of {α : Type} {P : α → Prop} {l : List α} (h : ∀ i < l.length, ∀ r, l[i]? = some r → P r) : ∀ r ∈ l, P r := fun r hr => by
  obtain ⟨i, hi⟩ := List.mem_iff_getElem?.mp hr
  exact h i (List.getElem?_eq_some_iff.mp hi).1 r hi
theorem ur_rw : RwOk UR := ⟨by decide, all_of fun i hi r hr => by
  match i, hi, hr with
  | 0, _, hr => cases hr; decide
  | 1, _, hr => cases hr; decide
  | 2, _, hr => cases hr; decide
  | 3, _, hr => cases hr; decide
  | 4, _, hr => cases hr; decide
  | 5, _, hr => cases hr; decide
  | 6, _, hr => cases hr; decide⟩
theorem ur_due : dueS wDoc UR = none := by decide
theorem ur_nd : NdR UR := ⟨by decide, by decide, by decide, fun r hr => strOk_of ((all_of (P := fun r : GR => ∀ c ∈ r.k, c < 1114112) (fun i hi r hr => by
  match i, hi, hr with
  | 0, _, hr => cases hr; decide
  | 1, _, hr => cases hr; decide
  | 2, _, hr => cases hr; decide
  | 3, _, hr => cases hr; decide
  | 4, _, hr => cases hr; decide
  | 5, _, hr => cases hr; decide
  | 6, _, hr => cases hr; decide)) r hr), all_of fun i hi r hr => by
  match i, hi, hr with
  | 0, _, hr => cases hr; decide
  | 1, _, hr => cases hr; decide
  | 2, _, hr => cases hr; decide
  | 3, _, hr => cases hr; decide
  | 4, _, hr => cases hr; decide
  | 5, _, hr => cases hr; decide
  | 6, _, hr => cases hr; decide⟩
theorem init_good {top : List Nat} {R : List GR} (ok : RwOk R) (h : dueS top R = none) : F_Grammar_init [wD top, .lst (R.map rowD)] = .ok (grD top R) := Rs.eq ((init_sp (top := top) ok).impE (fun d z => z.1) fun n ns vs ⟨t, w, _, z, _⟩ => by rw [h] at z; cases z)
theorem usual_eq : F_Grammar_usual [] = .ok (grD wDoc UR) := Rs.eq (by
  refine rs_run ?_
  unfold Fb_Grammar_usual
  refine ss_ret (rs_call (rs_cons (rs_c (rs_cons ?_))))
  array_get_dec
  exact Rs.of (init_good ur_rw ur_due) rfl)
/-- of the law's own grammars nothing is refused -/
theorem gr_due {top : List Nat} {R : List GR} (ok : GrOk top R) : dueS top R = none := by
  obtain ⟨hd, ⟨rt, hrt, rfl, hroot⟩, _, hok⟩ := ok
  have h1 : ∀ (S : List GR) (K : List (List Nat)), (K ++ S.map (·.k)).Nodup → dupR K S = none := by
    intro S
    induction S with
    | nil => intro K _; rfl
    | cons r S ih =>
      intro K h
      rw [dupR_c, if_neg]
      · exact ih _ (by rw [List.append_assoc]; exact h)
      · intro hm
        rw [List.map_cons] at h
        exact (List.nodup_append.mp h).2.2 _ hm _ (List.mem_cons_self ..) rfl
  have h2 : ∀ r ∈ R, ∀ ws : List (List Nat), (∀ w ∈ ws, w ∈ r.inn) → innS R r.ro ws = none := by
    intro r hr ws
    induction ws with
    | nil => intro _; rfl
    | cons w ws ih =>
      intro h
      obtain ⟨r', hr', rfl, hm⟩ := (hok r hr).2.2 w (h w (List.mem_cons_self ..))
      rw [innS_c, fdR_mem hd hr']
      dsimp only
      rw [if_pos hm]
      exact ih fun x hx => h x (List.mem_cons_of_mem _ hx)
  have h3 : ∀ S : List GR, (∀ r ∈ S, r ∈ R) → rowsS R S = none := by
    intro S
    induction S with
    | nil => intro _; rfl
    | cons r S ih =>
      intro h
      rw [rowsS_c, h2 r (h r (List.mem_cons_self ..)) r.inn fun w hw => hw]
      exact ih fun x hx => h x (List.mem_cons_of_mem _ hx)
  unfold dueS
  rw [h1 R [] hd, fdR_mem hd hrt]
  dsimp only
  rw [if_pos hroot]
  exact h3 R fun r hr => hr
theorem law_true (ns : List Int) (hns : ns.length ≤ 63) : F_law [.fz (ns.map D.int)] = .ok (.bl true) := Rs.eq (by
  refine rs_run ?_
  unfold Fb_law
  obtain ⟨_, e0, c0, rfl⟩ := (cell_sp ns hns 0 (by omega)).get
  obtain ⟨_, e1, c1, rfl⟩ := (cell_sp ns hns 1 (by omega)).get
  obtain ⟨_, e2, c2, rfl⟩ := (cell_sp ns hns 2 (by omega)).get
  obtain ⟨_, e3, c3, rfl⟩ := (cell_sp ns hns 3 (by omega)).get
  have cl : ∀ {k : Int} {d : D} {r : Rho} {Q : D → Prop} {E : Str → List Str → List D → Prop}, r[0]? = some (some (.fz (ns.map D.int))) → F_l_cell [.fz (ns.map D.int), .int k] = .ok d → Q d → Rs (dCall F_l_cell (dCons (dVar 0) (dCons (dC (.int k)) dNil)) r) Q E := fun h e q => rs_call (rs_cons (rs_var h (rs_cons (rs_c (rs_nil (Rs.of e q))))))
  obtain ⟨_, ek, ks, rfl, hkl, hkn, hkd⟩ := (kinds_sp c1).get
  refine ss_seq (ss_set (rs_call (rs_cons (cl rfl e1 (rs_cons (rs_c (rs_nil (Rs.of ek ?_))))))))
  refine ss_seq (ss_set (rs_op (rs_c (rs_op (rs_call (rs_cons (cl rfl e3 (rs_nil (rs_int (rs_c (rs_mod (by omega) (rs_add ?_))))))))))))
  have m0 : 0 ≤ c3 % 12 := Int.emod_nonneg _ (by omega)
  have m1 : c3 % 12 < 12 := Int.emod_lt_of_pos _ (by omega)
  obtain ⟨m, hm⟩ := Int.eq_ofNat_of_zero_le m0
  rw [hm] at m1 ⊢
  rw [show (1 : Int) + (m : Int) = ((1 + m : Nat) : Int) by omega]
  have hsl : (ks.take (1 + m)).length = 1 + m := by rw [List.length_take]; omega
  obtain ⟨_, eg, top, R, rfl, hRk, hgr⟩ := (grammar_sp c0 (ks.take (1 + m)) (by omega) (by omega) (hkd.sublist (List.take_sublist _ _))).get
  refine ss_seq (ss_asg (rs_call (rs_cons (cl rfl e0 (rs_cons (rs_sl (rs_var (d := .lst (ks.map wD)) rfl (rs_noP (rs_part (rs_var (d := .int ((1 + m : Nat) : Int)) rfl (rs_asI (rs_slL ?_))))))))))))
  rw [cut_take, ← List.map_take]
  refine rs_nil (Rs.of eg ?_)
  refine ⟨[some (.fz (ns.map D.int)), some (.lst (ks.map wD)), some (.int ((1 + m : Nat) : Int)), some (wD top), some (.lst (R.map rowD)), none, none, none, none, none], rfl, ?_⟩
  have hRl : R.length = 1 + m := by rw [← hsl, ← hRk, List.length_map]
  have hkw : ∀ w ∈ ks, PyData.strOk (Sg w) = true := fun w hw => strOk_of fun c hc => by have := (hkn w hw).2.2 c hc; omega
  have e12 : ks[12]? = some ks[12] := List.getElem?_eq_getElem (by omega)
  have hin12 : ks[12] ∉ ks.take (1 + m) := by
    intro hmem
    obtain ⟨j, hj⟩ := List.mem_iff_getElem?.mp hmem
    have hjl := (List.getElem?_eq_some_iff.mp hj).1
    rw [List.getElem?_take_of_lt (by omega)] at hj
    obtain ⟨p1, p2⟩ := List.getElem?_eq_some_iff.mp hj
    exact (List.pairwise_iff_getElem.mp hkd) j 12 p1 (by omega) (by omega) p2
  have h12ok := hkw ks[12] (List.getElem_mem (by omega))
  generalize ks[12] = st at e12 hin12 h12ok
  have at12 : atI (ks.map wD) 12 = some (wD st) := atI_nat (j := 12) (by rw [List.getElem?_map, e12]; rfl)
  have hK : ∀ w ∈ ks.take (1 + m), PyData.strOk (Sg w) = true := fun w hw => hkw w (List.mem_of_mem_take hw)
  have hkin : ∀ r ∈ R, r.k ∈ ks.take (1 + m) := fun r hr => by rw [← hRk]; exact List.mem_map_of_mem hr
  have hcr : CR (ks.take (1 + m)) (1 + m) 0 R := by
    refine ⟨hRl, fun r hr => ?_⟩
    obtain ⟨q1, q2, q3⟩ := hgr.2.2.2 r hr
    refine ⟨hkin r hr, q1, by omega, fun w hw => ?_⟩
    obtain ⟨r', hr', rfl, _⟩ := q3 w hw
    exact hK _ (hkin r' hr')
  have crw : ∀ {S : List GR} {n : Nat}, n ≤ 3 → CR (ks.take (1 + m)) (1 + m) n S → RwOk S ∧ 0 < S.length ∧ (∀ r ∈ S, okW r) ∧ st ∉ S.map (·.k) := fun {S n} hn h => by
    refine ⟨⟨by rw [h.1]; omega, fun r hr => ⟨(h.2 r hr).2.1, by have := (h.2 r hr).2.2.1; omega⟩⟩, by rw [h.1]; omega, fun r hr => ⟨hK _ (h.2 r hr).1, roles_ok _ (h.2 r hr).2.1, (h.2 r hr).2.2.2⟩, fun hm => ?_⟩
    obtain ⟨r, hr, e⟩ := List.mem_map.mp hm
    exact hin12 (by rw [← e]; exact (h.2 r hr).1)
  refine ss_seq (ss_set (rs_call (rs_cons (cl rfl e2 (rs_cons (rs_op (rs_lst (rs_cons (rs_c (rs_nil ⟨Nat.le_of_ble_eq_true rfl, ?_⟩))))))))))
  refine rs_op (rs_lst (rs_cons (rs_c (rs_cons (rs_c (rs_cons (rs_c (rs_cons (rs_c (rs_nil ⟨Nat.le_of_ble_eq_true rfl, rs_c ?_⟩))))))))))
  refine rs_mulL ⟨by decide, by decide, Nat.le_of_ble_eq_true rfl⟩ ?_
  refine rs_addLL (Nat.le_of_ble_eq_true rfl) (rs_nil ?_)
  show Rs (F_l_row [.int c2, iL LC]) _ _
  refine row_of c2 LC (by decide) (by decide) fun vs hf => ?_
  obtain ⟨_, ec, top2, R2, rfl, hcr2⟩ := (changed_sp (ks.take (1 + m)) hK st h12ok hf ⟨by omega, by omega⟩ hcr top).get
  refine ss_seq (ss_asg (rs_call (rs_cons (rs_var (d := wD top) rfl (rs_cons (rs_var (d := .lst (R.map rowD)) rfl (rs_cons (rs_var (d := iL vs) rfl (rs_cons (rs_op (rs_var (d := .lst (ks.map wD)) rfl (rs_c (rs_ixL at12 (rs_nil (Rs.of ec ?_)))))))))))))))
  refine ⟨[some (.fz (ns.map D.int)), some (.lst (ks.map wD)), some (.int ((1 + m : Nat) : Int)), some (wD top), some (.lst (R.map rowD)), some (iL vs), some (wD top2), some (.lst (R2.map rowD)), none, none], rfl, ?_⟩
  refine ss_seq (ss_cut (fun r => r = [some (.fz (ns.map D.int)), some (.lst (ks.map wD)), some (.int ((1 + m : Nat) : Int)), some (wD top), some (.lst (R.map rowD)), some (iL vs), some (wD top2), some (.lst (R2.map rowD)), some (.lst (UR.map rowD)), none]) ?_ ?_)
  · array_get_dec
    rfl
  rintro _ rfl
  obtain ⟨ok1, p1, w1, n1⟩ := crw (by omega) hcr
  obtain ⟨ok2, p2, w2, n2⟩ := crw (Nat.le_refl _) hcr2
  have egr := init_good ok1 (gr_due hgr)
  have nd : NdR R := ⟨hgr.1, by omega, p1, fun r hr => (w1 r hr).1, fun r hr => (ok1.2 r hr).2⟩
  have t1 := tells_eq top st nd n1
  have t2 := asked_eq top2 st ok2 p2 w2 n2
  have t3 := tells_eq wDoc [115, 101, 101, 110] ur_nd (by decide)
  have t4 := asked_eq top st ok1 p1 w1 n1
  refine ss_seq (ss_set (rs_call (rs_cons (rs_var (d := wD top) rfl (rs_cons (rs_call (rs_cons (rs_var (d := .lst (R.map rowD)) rfl (rs_nil (rs_listL (rs_nil (Rs.of egr ?_))))))))))))
  have s12 : ∀ {x2 x3 x4 x5 x6 x7 x8 x9 : Option D} {Q : D → Prop} {E : Str → List Str → List D → Prop}, Q (wD st) → Rs (dOp ixD (dVar 1) (dC (.int 12)) [some (.fz (ns.map D.int)), some (.lst (ks.map wD)), x2, x3, x4, x5, x6, x7, x8, x9]) Q E := fun q => rs_op (rs_var (d := .lst (ks.map wD)) rfl (rs_c (rs_ixL at12 q)))
  refine ss_seq (ss_if (rs_or (rs_not (rs_T (rs_call (rs_cons (rs_var (d := grD top R) rfl (rs_cons (rs_var (d := wD top) rfl (rs_cons (rs_var (d := .lst (R.map rowD)) rfl (rs_cons (s12 (rs_nil (Rs.of t1 (rs_asB ?_))))))))))))))))
  refine rs_not (rs_T (rs_call (rs_cons (rs_var (d := wD top2) rfl (rs_cons (rs_var (d := .lst (R2.map rowD)) rfl (rs_cons (s12 (rs_nil (Rs.of t2 (rs_asB ⟨fun z => (by cases z), fun _ => ss_nx ?_⟩)))))))))))
  refine ss_seq (ss_if (rs_or (rs_not (rs_T (rs_call (rs_cons (rs_call (rs_nil (Rs.of usual_eq (rs_cons (rs_c (rs_cons (rs_var (d := .lst (UR.map rowD)) rfl (rs_cons (rs_c (rs_nil (Rs.of t3 (rs_asB ?_))))))))))))))))))
  refine rs_not (rs_T (rs_call (rs_cons (rs_var (d := wD top) rfl (rs_cons (rs_var (d := .lst (R.map rowD)) rfl (rs_cons (s12 (rs_nil (Rs.of t4 (rs_asB ⟨fun z => (by cases z), fun _ => ss_nx ?_⟩)))))))))))
  exact ss_ret (rs_call (rs_cons (rs_var (d := grD top R) rfl (rs_cons (rs_var (d := wD top) rfl (rs_cons (rs_var (d := .lst (R.map rowD)) rfl (rs_cons (s12 (rs_nil (Rs.of t1 rfl))))))))))))
end
end Lk
end S_MM_ta
section S_P_walk
set_option Elab.async false
set_option linter.all false
set_option maxRecDepth 100000
set_option maxHeartbeats 4000000
namespace Lk
open PySem L2 Dx
def topS (i : Nat) : Stmt := PySem.Challenge.pw_laidforall_k05_grammars.main.body.getD i (.Pass ⟨0, 0, 0, 0⟩)
abbrev s_Grammar_check_inner : Stmt := inClass (topS 9) 1
theorem sc_Grammar_check_inner : FnScope ["self", "kind", "role", "inner", "other"] ["self", "kind"] (defScope s_Grammar_check_inner) := ⟨rfl, rfl, rfl, by decide +kernel, rfl, by decide +kernel, by decide +kernel⟩
abbrev s_Grammar_init : Stmt := inClass (topS 9) 0
theorem sc_Grammar_init : FnScope ["self", "root", "rows", "kind", "role", "inner", "self.order", "self.entries"] ["self", "root", "rows"] (defScope s_Grammar_init) := ⟨rfl, rfl, rfl, by decide +kernel, rfl, by decide +kernel, by decide +kernel⟩
abbrev s_Grammar_usual : Stmt := inClass (topS 9) 2
theorem sc_Grammar_usual : FnScope [] [] (defScope s_Grammar_usual) := ⟨rfl, rfl, rfl, by decide +kernel, rfl, by decide +kernel, by decide +kernel⟩
abbrev s_Grammar_getitem : Stmt := inClass (topS 9) 3
theorem sc_Grammar_getitem : FnScope ["self", "kind"] ["self", "kind"] (defScope s_Grammar_getitem) := ⟨rfl, rfl, rfl, by decide +kernel, rfl, by decide +kernel, by decide +kernel⟩
abbrev s_Grammar_contains : Stmt := inClass (topS 9) 4
theorem sc_Grammar_contains : FnScope ["self", "kind"] ["self", "kind"] (defScope s_Grammar_contains) := ⟨rfl, rfl, rfl, by decide +kernel, rfl, by decide +kernel, by decide +kernel⟩
abbrev s_Grammar_len : Stmt := inClass (topS 9) 5
theorem sc_Grammar_len : FnScope ["self"] ["self"] (defScope s_Grammar_len) := ⟨rfl, rfl, rfl, by decide +kernel, rfl, by decide +kernel, by decide +kernel⟩
abbrev s_l_cell : Stmt := topS 11
theorem sc_l_cell : FnScope ["_law_script", "_law_k", "_law_number"] ["_law_script", "_law_k"] (defScope s_l_cell) := ⟨rfl, rfl, rfl, by decide +kernel, rfl, by decide +kernel, by decide +kernel⟩
abbrev s_l_row : Stmt := topS 12
theorem sc_l_row : FnScope ["_law_cell_here", "_law_limits", "_law_row_here", "_law_rest", "_law_k", "_law_mixed"] ["_law_cell_here", "_law_limits"] (defScope s_l_row) := ⟨rfl, rfl, rfl, by decide +kernel, rfl, by decide +kernel, by decide +kernel⟩
abbrev s_l_same : Stmt := topS 13
theorem sc_l_same : FnScope ["_law_one", "_law_two", "_law_k"] ["_law_one", "_law_two"] (defScope s_l_same) := ⟨rfl, rfl, rfl, by decide +kernel, rfl, by decide +kernel, by decide +kernel⟩
abbrev s_l_names : Stmt := topS 14
theorem sc_l_names : FnScope ["_law_cell_here", "_law_many", "_law_letters", "_law_row_here", "_law_names_here", "_law_k", "_law_word", "_law_pick", "_law_first", "_law_at", "_law_letter"] ["_law_cell_here", "_law_many"] (defScope s_l_names) := ⟨rfl, rfl, rfl, by decide +kernel, rfl, by decide +kernel, by decide +kernel⟩
abbrev s_l_kinds : Stmt := topS 15
theorem sc_l_kinds : FnScope ["_law_cell_here", "_law_many", "_law_kinds_here", "_law_word", "_law_letter"] ["_law_cell_here", "_law_many"] (defScope s_l_kinds) := ⟨rfl, rfl, rfl, by decide +kernel, rfl, by decide +kernel, by decide +kernel⟩
abbrev s_l_may : Stmt := topS 16
theorem sc_l_may : FnScope ["_law_outer", "_law_inner"] ["_law_outer", "_law_inner"] (defScope s_l_may) := ⟨rfl, rfl, rfl, by decide +kernel, rfl, by decide +kernel, by decide +kernel⟩
abbrev s_l_grammar : Stmt := topS 17
theorem sc_l_grammar : FnScope ["_law_cell_here", "_law_kinds_here", "_law_many", "_law_row_here", "_law_menu", "_law_roles", "_law_k", "_law_rows", "_law_bits", "_law_inner", "_law_j", "_law_at"] ["_law_cell_here", "_law_kinds_here"] (defScope s_l_grammar) := ⟨rfl, rfl, rfl, by decide +kernel, rfl, by decide +kernel, by decide +kernel⟩
abbrev s_l_error : Stmt := topS 18
theorem sc_l_error : FnScope ["_law_e"] ["_law_e"] (defScope s_l_error) := ⟨rfl, rfl, rfl, by decide +kernel, rfl, by decide +kernel, by decide +kernel⟩
abbrev s_l_due : Stmt := topS 19
theorem sc_l_due : FnScope ["_law_top", "_law_rows", "_law_roles", "_law_row_here", "_law_other"] ["_law_top", "_law_rows"] (defScope s_l_due) := ⟨rfl, rfl, rfl, by decide +kernel, rfl, by decide +kernel, by decide +kernel⟩
abbrev s_l_tells : Stmt := topS 20
theorem sc_l_tells : FnScope ["_law_grammar_here", "_law_top", "_law_rows", "_law_stranger", "_law_kinds_here", "_law_row_here", "_law_pairs", "_law_one", "_law_two", "_law_e"] ["_law_grammar_here", "_law_top", "_law_rows", "_law_stranger"] (defScope s_l_tells) := ⟨rfl, rfl, rfl, by decide +kernel, rfl, by decide +kernel, by decide +kernel⟩
abbrev s_l_asked : Stmt := topS 21
theorem sc_l_asked : FnScope ["_law_top", "_law_rows", "_law_stranger", "_law_passed", "_law_grammar_here", "_law_e"] ["_law_top", "_law_rows", "_law_stranger"] (defScope s_l_asked) := ⟨rfl, rfl, rfl, by decide +kernel, rfl, by decide +kernel, by decide +kernel⟩
abbrev s_l_put : Stmt := topS 22
theorem sc_l_put : FnScope ["_law_inner", "_law_at", "_law_kind", "_law_place"] ["_law_inner", "_law_at", "_law_kind"] (defScope s_l_put) := ⟨rfl, rfl, rfl, by decide +kernel, rfl, by decide +kernel, by decide +kernel⟩
abbrev s_l_changed : Stmt := topS 23
theorem sc_l_changed : FnScope ["_law_top", "_law_rows", "_law_changes", "_law_stranger", "_law_roles", "_law_n", "_law_way", "_law_spot", "_law_at", "_law_to", "_law_kind", "_law_role", "_law_inner"] ["_law_top", "_law_rows", "_law_changes", "_law_stranger"] (defScope s_l_changed) := ⟨rfl, rfl, rfl, by decide +kernel, rfl, by decide +kernel, by decide +kernel⟩
abbrev s_law : Stmt := topS 24
theorem sc_law : FnScope ["_law_script", "_law_kinds_here", "_law_many", "_law_top", "_law_rows", "_law_changes", "_law_other_top", "_law_other_rows", "_law_usual", "_law_grammar_here"] ["_law_script"] (defScope s_law) := ⟨rfl, rfl, rfl, by decide +kernel, rfl, by decide +kernel, by decide +kernel⟩
abbrev s_Grammar_iter : Stmt := inClass (topS 9) 6
theorem sc_Grammar_iter : FnScope ["self"] ["self"] (defScope s_Grammar_iter) := ⟨rfl, rfl, rfl, by decide +kernel, rfl, by decide +kernel, by decide +kernel⟩
abbrev s_Misfit : Stmt := inClass (topS 5) 0
theorem sc_Misfit : FnScope ["self", "kind"] ["self", "kind"] (defScope s_Misfit) := ⟨rfl, rfl, rfl, by decide +kernel, rfl, by decide +kernel, by decide +kernel⟩
abbrev s_Taken : Stmt := inClass (topS 3) 0
theorem sc_Taken : FnScope ["self", "kind"] ["self", "kind"] (defScope s_Taken) := ⟨rfl, rfl, rfl, by decide +kernel, rfl, by decide +kernel, by decide +kernel⟩
abbrev s_Unknown : Stmt := inClass (topS 4) 0
theorem sc_Unknown : FnScope ["self", "kind"] ["self", "kind"] (defScope s_Unknown) := ⟨rfl, rfl, rfl, by decide +kernel, rfl, by decide +kernel, by decide +kernel⟩
structure Txt (w : World) (K : PySem.W.Frag) (mg : Str → Option Value) where
  f_Grammar_check_inner : Addr
  fd_Grammar_check_inner : FuncData
  F_Grammar_check_inner : Fun K "check_inner" "Grammar.check_inner" s_Grammar_check_inner f_Grammar_check_inner fd_Grammar_check_inner
  b_Grammar_check_inner : L2.Binds K fd_Grammar_check_inner ["self", "kind"] []
  f_Grammar_init : Addr
  fd_Grammar_init : FuncData
  F_Grammar_init : Fun K "__init__" "Grammar.__init__" s_Grammar_init f_Grammar_init fd_Grammar_init
  b_Grammar_init : L2.Binds K fd_Grammar_init ["self", "root", "rows"] []
  f_Grammar_usual : Addr
  fd_Grammar_usual : FuncData
  F_Grammar_usual : Fun K "usual" "Grammar.usual" s_Grammar_usual f_Grammar_usual fd_Grammar_usual
  b_Grammar_usual : L2.Binds K fd_Grammar_usual [] []
  f_Grammar_getitem : Addr
  fd_Grammar_getitem : FuncData
  F_Grammar_getitem : Fun K "__getitem__" "Grammar.__getitem__" s_Grammar_getitem f_Grammar_getitem fd_Grammar_getitem
  b_Grammar_getitem : L2.Binds K fd_Grammar_getitem ["self", "kind"] []
  f_Grammar_contains : Addr
  fd_Grammar_contains : FuncData
  F_Grammar_contains : Fun K "__contains__" "Grammar.__contains__" s_Grammar_contains f_Grammar_contains fd_Grammar_contains
  b_Grammar_contains : L2.Binds K fd_Grammar_contains ["self", "kind"] []
  f_Grammar_len : Addr
  fd_Grammar_len : FuncData
  F_Grammar_len : Fun K "__len__" "Grammar.__len__" s_Grammar_len f_Grammar_len fd_Grammar_len
  b_Grammar_len : L2.Binds K fd_Grammar_len ["self"] []
  f_l_cell : Addr
  fd_l_cell : FuncData
  F_l_cell : Fun K "_law_cell" "_law_cell" s_l_cell f_l_cell fd_l_cell
  g_l_cell : mg "_law_cell" = some (.ref f_l_cell)
  b_l_cell : L2.Binds K fd_l_cell ["_law_script", "_law_k"] []
  f_l_row : Addr
  fd_l_row : FuncData
  F_l_row : Fun K "_law_row" "_law_row" s_l_row f_l_row fd_l_row
  g_l_row : mg "_law_row" = some (.ref f_l_row)
  b_l_row : L2.Binds K fd_l_row ["_law_cell_here", "_law_limits"] []
  f_l_same : Addr
  fd_l_same : FuncData
  F_l_same : Fun K "_law_same" "_law_same" s_l_same f_l_same fd_l_same
  g_l_same : mg "_law_same" = some (.ref f_l_same)
  b_l_same : L2.Binds K fd_l_same ["_law_one", "_law_two"] []
  f_l_names : Addr
  fd_l_names : FuncData
  F_l_names : Fun K "_law_names" "_law_names" s_l_names f_l_names fd_l_names
  g_l_names : mg "_law_names" = some (.ref f_l_names)
  b_l_names : L2.Binds K fd_l_names ["_law_cell_here", "_law_many"] []
  f_l_kinds : Addr
  fd_l_kinds : FuncData
  F_l_kinds : Fun K "_law_kinds" "_law_kinds" s_l_kinds f_l_kinds fd_l_kinds
  g_l_kinds : mg "_law_kinds" = some (.ref f_l_kinds)
  b_l_kinds : L2.Binds K fd_l_kinds ["_law_cell_here", "_law_many"] []
  f_l_may : Addr
  fd_l_may : FuncData
  F_l_may : Fun K "_law_may" "_law_may" s_l_may f_l_may fd_l_may
  g_l_may : mg "_law_may" = some (.ref f_l_may)
  b_l_may : L2.Binds K fd_l_may ["_law_outer", "_law_inner"] []
  f_l_grammar : Addr
  fd_l_grammar : FuncData
  F_l_grammar : Fun K "_law_grammar" "_law_grammar" s_l_grammar f_l_grammar fd_l_grammar
  g_l_grammar : mg "_law_grammar" = some (.ref f_l_grammar)
  b_l_grammar : L2.Binds K fd_l_grammar ["_law_cell_here", "_law_kinds_here"] []
  f_l_error : Addr
  fd_l_error : FuncData
  F_l_error : Fun K "_law_error" "_law_error" s_l_error f_l_error fd_l_error
  g_l_error : mg "_law_error" = some (.ref f_l_error)
  b_l_error : L2.Binds K fd_l_error ["_law_e"] []
  f_l_due : Addr
  fd_l_due : FuncData
  F_l_due : Fun K "_law_due" "_law_due" s_l_due f_l_due fd_l_due
  g_l_due : mg "_law_due" = some (.ref f_l_due)
  b_l_due : L2.Binds K fd_l_due ["_law_top", "_law_rows"] []
  f_l_tells : Addr
  fd_l_tells : FuncData
  F_l_tells : Fun K "_law_tells" "_law_tells" s_l_tells f_l_tells fd_l_tells
  g_l_tells : mg "_law_tells" = some (.ref f_l_tells)
  b_l_tells : L2.Binds K fd_l_tells ["_law_grammar_here", "_law_top", "_law_rows", "_law_stranger"] []
  f_l_asked : Addr
  fd_l_asked : FuncData
  F_l_asked : Fun K "_law_asked" "_law_asked" s_l_asked f_l_asked fd_l_asked
  g_l_asked : mg "_law_asked" = some (.ref f_l_asked)
  b_l_asked : L2.Binds K fd_l_asked ["_law_top", "_law_rows", "_law_stranger"] []
  f_l_put : Addr
  fd_l_put : FuncData
  F_l_put : Fun K "_law_put" "_law_put" s_l_put f_l_put fd_l_put
  g_l_put : mg "_law_put" = some (.ref f_l_put)
  b_l_put : L2.Binds K fd_l_put ["_law_inner", "_law_at", "_law_kind"] []
  f_l_changed : Addr
  fd_l_changed : FuncData
  F_l_changed : Fun K "_law_changed" "_law_changed" s_l_changed f_l_changed fd_l_changed
  g_l_changed : mg "_law_changed" = some (.ref f_l_changed)
  b_l_changed : L2.Binds K fd_l_changed ["_law_top", "_law_rows", "_law_changes", "_law_stranger"] []
  f_law : Addr
  fd_law : FuncData
  F_law : Fun K "law" "law" s_law f_law fd_law
  g_law : mg "law" = some (.ref f_law)
  b_law : L2.Binds K fd_law ["_law_script"] []
  f_Grammar_iter : Addr
  fd_Grammar_iter : FuncData
  F_Grammar_iter : Fun K "__iter__" "Grammar.__iter__" s_Grammar_iter f_Grammar_iter fd_Grammar_iter
  b_Grammar_iter : L2.Binds K fd_Grammar_iter ["self"] []
  n_ValueError : mg "ValueError" = none
  n_bool : mg "bool" = none
  n_int : mg "int" = none
  n_isinstance : mg "isinstance" = none
  n_iter : mg "iter" = none
  n_len : mg "len" = none
  n_list : mg "list" = none
  n_max : mg "max" = none
  n_range : mg "range" = none
  n_str : mg "str" = none
  n_sum : mg "sum" = none
  n_tuple : mg "tuple" = none
  k_INNER_ROLES : Addr
  c_INNER_ROLES : mg "INNER_ROLES" = some (.ref k_INNER_ROLES)
  kd_INNER_ROLES : ModD K w k_INNER_ROLES md_INNER_ROLES
  a_LaidError : Addr
  g_LaidError : mg "LaidError" = some (.ref a_LaidError)
  a_Misfit : Addr
  g_Misfit : mg "Misfit" = some (.ref a_Misfit)
  a_Strange : Addr
  g_Strange : mg "Strange" = some (.ref a_Strange)
  a_Taken : Addr
  g_Taken : mg "Taken" = some (.ref a_Taken)
  a_Unknown : Addr
  g_Unknown : mg "Unknown" = some (.ref a_Unknown)
  o_Misfit : OexC K a_Misfit
  fI_Misfit : Addr
  fdI_Misfit : FuncData
  i_Misfit : PySem.W.findIn K (.ref a_Misfit) "__init__" = some (some (.ref fI_Misfit))
  ti_Misfit : PySem.W.typeIn K (.ref fI_Misfit) = some (.type "function")
  FI_Misfit : Fun K "__init__" "Misfit.__init__" s_Misfit fI_Misfit fdI_Misfit
  b_Misfit : L2.Binds K fdI_Misfit ["self", "kind"] []
  no_Misfit_kind : PySem.W.findIn K (.ref a_Misfit) "kind" = some none
  xf_Misfit : XfC K a_Misfit
  xc_Misfit : ExcC K a_Misfit
  e_Misfit_LaidError : PySem.W.exmOne K (.ref a_Misfit) (.ref a_LaidError) = some true
  q_Misfit_Misfit : PySem.W.kitOne K (.ref a_Misfit) (.ref a_Misfit) = some true
  q_Misfit_Strange : PySem.W.kitOne K (.ref a_Misfit) (.ref a_Strange) = some false
  q_Misfit_Taken : PySem.W.kitOne K (.ref a_Misfit) (.ref a_Taken) = some false
  q_Misfit_Unknown : PySem.W.kitOne K (.ref a_Misfit) (.ref a_Unknown) = some false
  q_Misfit_ValueError : PySem.W.kitOne K (.ref a_Misfit) (.type "ValueError") = some true
  o_Taken : OexC K a_Taken
  fI_Taken : Addr
  fdI_Taken : FuncData
  i_Taken : PySem.W.findIn K (.ref a_Taken) "__init__" = some (some (.ref fI_Taken))
  ti_Taken : PySem.W.typeIn K (.ref fI_Taken) = some (.type "function")
  FI_Taken : Fun K "__init__" "Taken.__init__" s_Taken fI_Taken fdI_Taken
  b_Taken : L2.Binds K fdI_Taken ["self", "kind"] []
  no_Taken_kind : PySem.W.findIn K (.ref a_Taken) "kind" = some none
  xf_Taken : XfC K a_Taken
  xc_Taken : ExcC K a_Taken
  e_Taken_LaidError : PySem.W.exmOne K (.ref a_Taken) (.ref a_LaidError) = some true
  q_Taken_Misfit : PySem.W.kitOne K (.ref a_Taken) (.ref a_Misfit) = some false
  q_Taken_Strange : PySem.W.kitOne K (.ref a_Taken) (.ref a_Strange) = some false
  q_Taken_Taken : PySem.W.kitOne K (.ref a_Taken) (.ref a_Taken) = some true
  q_Taken_Unknown : PySem.W.kitOne K (.ref a_Taken) (.ref a_Unknown) = some false
  q_Taken_ValueError : PySem.W.kitOne K (.ref a_Taken) (.type "ValueError") = some true
  o_Unknown : OexC K a_Unknown
  fI_Unknown : Addr
  fdI_Unknown : FuncData
  i_Unknown : PySem.W.findIn K (.ref a_Unknown) "__init__" = some (some (.ref fI_Unknown))
  ti_Unknown : PySem.W.typeIn K (.ref fI_Unknown) = some (.type "function")
  FI_Unknown : Fun K "__init__" "Unknown.__init__" s_Unknown fI_Unknown fdI_Unknown
  b_Unknown : L2.Binds K fdI_Unknown ["self", "kind"] []
  no_Unknown_kind : PySem.W.findIn K (.ref a_Unknown) "kind" = some none
  xf_Unknown : XfC K a_Unknown
  xc_Unknown : ExcC K a_Unknown
  e_Unknown_LaidError : PySem.W.exmOne K (.ref a_Unknown) (.ref a_LaidError) = some true
  q_Unknown_Misfit : PySem.W.kitOne K (.ref a_Unknown) (.ref a_Misfit) = some false
  q_Unknown_Strange : PySem.W.kitOne K (.ref a_Unknown) (.ref a_Strange) = some false
  q_Unknown_Taken : PySem.W.kitOne K (.ref a_Unknown) (.ref a_Taken) = some false
  q_Unknown_Unknown : PySem.W.kitOne K (.ref a_Unknown) (.ref a_Unknown) = some true
  q_Unknown_ValueError : PySem.W.kitOne K (.ref a_Unknown) (.type "ValueError") = some true
  a_Grammar : Addr
  g_Grammar : mg "Grammar" = some (.ref a_Grammar)
  cl_Grammar : L2.Cls K a_Grammar
  mk_Grammar : L2.Mk K a_Grammar f_Grammar_init
  na_Grammar_entries : L2.NoAttr K a_Grammar "entries"
  na_Grammar_order : L2.NoAttr K a_Grammar "order"
  na_Grammar_root : L2.NoAttr K a_Grammar "root"
  m_Grammar___contains__ : L2.Meth K a_Grammar "__contains__" f_Grammar_contains
  m_Grammar___getitem__ : L2.Meth K a_Grammar "__getitem__" f_Grammar_getitem
  m_Grammar___iter__ : L2.Meth K a_Grammar "__iter__" f_Grammar_iter
  m_Grammar___len__ : L2.Meth K a_Grammar "__len__" f_Grammar_len
  m_Grammar_check_inner : L2.Meth K a_Grammar "check_inner" f_Grammar_check_inner
  cr_Grammar : ClX.CRead K a_Grammar (.type "type")
  p_Grammar_usual : Addr
  sm_Grammar_usual : SMet K a_Grammar (.type "type") "usual" p_Grammar_usual f_Grammar_usual
def Txt.cm {w : World} {K : PySem.W.Frag} {mg : Str → Option Value} (T : Txt w K mg) : CM := fun n => if n = "Misfit" then some T.a_Misfit else if n = "Taken" then some T.a_Taken else if n = "Unknown" then some T.a_Unknown else if n = "Grammar" then some T.a_Grammar else none
section
variable {P : Program} {w : World} {K : PySem.W.Frag} {mg : Str → Option Value} {base : Heap}
theorem Txt.cm_Misfit (T : Txt w K mg) : T.cm "Misfit" = some T.a_Misfit := by unfold Txt.cm; rw [if_pos rfl]
theorem Txt.cm_Taken (T : Txt w K mg) : T.cm "Taken" = some T.a_Taken := by unfold Txt.cm; rw [if_neg (by decide), if_pos rfl]
theorem Txt.cm_Unknown (T : Txt w K mg) : T.cm "Unknown" = some T.a_Unknown := by unfold Txt.cm; rw [if_neg (by decide), if_neg (by decide), if_pos rfl]
theorem Txt.cm_Grammar (T : Txt w K mg) : T.cm "Grammar" = some T.a_Grammar := by unfold Txt.cm; rw [if_neg (by decide), if_neg (by decide), if_neg (by decide), if_pos rfl]
theorem Txt.exm_LaidError (T : Txt w K mg) : ∀ n C b, T.cm n = some C → isM_LaidError n = some b → PySem.W.exmOne K (.ref C) (.ref T.a_LaidError) = some b := by
  intro n C b h1 h2
  unfold Txt.cm at h1
  unfold isM_LaidError at h2
  by_cases e0 : n = "Misfit"
  · subst e0; simp at h1 h2; subst h1 h2; exact T.e_Misfit_LaidError
  by_cases e1 : n = "Taken"
  · subst e1; simp [e0] at h1 h2; subst h1 h2; exact T.e_Taken_LaidError
  by_cases e2 : n = "Unknown"
  · subst e2; simp [e0, e1] at h1 h2; subst h1 h2; exact T.e_Unknown_LaidError
  simp [e0, e1, e2] at h2
theorem Txt.xf_of_LaidError (T : Txt w K mg) {C : Addr} (h : ∃ n, T.cm n = some C ∧ isM_LaidError n = some true) : XfC K C := by
  obtain ⟨n, h1, h2⟩ := h
  unfold Txt.cm at h1
  unfold isM_LaidError at h2
  by_cases e0 : n = "Misfit"
  · subst e0; simp at h1; subst h1; exact T.xf_Misfit
  by_cases e1 : n = "Taken"
  · subst e1; simp [e0] at h1; subst h1; exact T.xf_Taken
  by_cases e2 : n = "Unknown"
  · subst e2; simp [e0, e1] at h1; subst h1; exact T.xf_Unknown
  simp [e0, e1, e2] at h2
theorem Txt.xc_of_LaidError (T : Txt w K mg) {C : Addr} (h : ∃ n, T.cm n = some C ∧ isM_LaidError n = some true) : ExcC K C := by
  obtain ⟨n, h1, h2⟩ := h
  unfold Txt.cm at h1
  unfold isM_LaidError at h2
  by_cases e0 : n = "Misfit"
  · subst e0; simp at h1; subst h1; exact T.xc_Misfit
  by_cases e1 : n = "Taken"
  · subst e1; simp [e0] at h1; subst h1; exact T.xc_Taken
  by_cases e2 : n = "Unknown"
  · subst e2; simp [e0, e1] at h1; subst h1; exact T.xc_Unknown
  simp [e0, e1, e2] at h2
theorem Txt.no_of_LaidError_kind (T : Txt w K mg) {C : Addr} (h : ∃ n, T.cm n = some C ∧ isM_LaidError n = some true) : PySem.W.findIn K (.ref C) "kind" = some none := by
  obtain ⟨n, h1, h2⟩ := h
  unfold Txt.cm at h1
  unfold isM_LaidError at h2
  by_cases e0 : n = "Misfit"
  · subst e0; simp at h1; subst h1; exact T.no_Misfit_kind
  by_cases e1 : n = "Taken"
  · subst e1; simp [e0] at h1; subst h1; exact T.no_Taken_kind
  by_cases e2 : n = "Unknown"
  · subst e2; simp [e0, e1] at h1; subst h1; exact T.no_Unknown_kind
  simp [e0, e1, e2] at h2
theorem Txt.isi_Misfit (T : Txt w K mg) : ∀ n C b, T.cm n = some C → isM_Misfit n = some b → PySem.W.kitOne K (.ref C) (.ref T.a_Misfit) = some b := by
  intro n C b h1 h2
  unfold Txt.cm at h1
  unfold isM_Misfit at h2
  by_cases e0 : n = "Misfit"
  · subst e0; simp at h1 h2; subst h1 h2; exact T.q_Misfit_Misfit
  by_cases e1 : n = "Taken"
  · subst e1; simp [e0] at h1 h2; subst h1 h2; exact T.q_Taken_Misfit
  by_cases e2 : n = "Unknown"
  · subst e2; simp [e0, e1] at h1 h2; subst h1 h2; exact T.q_Unknown_Misfit
  simp [e0, e1, e2] at h2
theorem Txt.isi_Strange (T : Txt w K mg) : ∀ n C b, T.cm n = some C → isM_Strange n = some b → PySem.W.kitOne K (.ref C) (.ref T.a_Strange) = some b := by
  intro n C b h1 h2
  unfold Txt.cm at h1
  unfold isM_Strange at h2
  by_cases e0 : n = "Misfit"
  · subst e0; simp at h1 h2; subst h1 h2; exact T.q_Misfit_Strange
  by_cases e1 : n = "Taken"
  · subst e1; simp [e0] at h1 h2; subst h1 h2; exact T.q_Taken_Strange
  by_cases e2 : n = "Unknown"
  · subst e2; simp [e0, e1] at h1 h2; subst h1 h2; exact T.q_Unknown_Strange
  simp [e0, e1, e2] at h2
theorem Txt.isi_Taken (T : Txt w K mg) : ∀ n C b, T.cm n = some C → isM_Taken n = some b → PySem.W.kitOne K (.ref C) (.ref T.a_Taken) = some b := by
  intro n C b h1 h2
  unfold Txt.cm at h1
  unfold isM_Taken at h2
  by_cases e0 : n = "Misfit"
  · subst e0; simp at h1 h2; subst h1 h2; exact T.q_Misfit_Taken
  by_cases e1 : n = "Taken"
  · subst e1; simp [e0] at h1 h2; subst h1 h2; exact T.q_Taken_Taken
  by_cases e2 : n = "Unknown"
  · subst e2; simp [e0, e1] at h1 h2; subst h1 h2; exact T.q_Unknown_Taken
  simp [e0, e1, e2] at h2
theorem Txt.isi_Unknown (T : Txt w K mg) : ∀ n C b, T.cm n = some C → isM_Unknown n = some b → PySem.W.kitOne K (.ref C) (.ref T.a_Unknown) = some b := by
  intro n C b h1 h2
  unfold Txt.cm at h1
  unfold isM_Unknown at h2
  by_cases e0 : n = "Misfit"
  · subst e0; simp at h1 h2; subst h1 h2; exact T.q_Misfit_Unknown
  by_cases e1 : n = "Taken"
  · subst e1; simp [e0] at h1 h2; subst h1 h2; exact T.q_Taken_Unknown
  by_cases e2 : n = "Unknown"
  · subst e2; simp [e0, e1] at h1 h2; subst h1 h2; exact T.q_Unknown_Unknown
  simp [e0, e1, e2] at h2
theorem Txt.isi_ValueError (T : Txt w K mg) : ∀ n C b, T.cm n = some C → isM_ValueError n = some b → PySem.W.kitOne K (.ref C) (.type "ValueError") = some b := by
  intro n C b h1 h2
  unfold Txt.cm at h1
  unfold isM_ValueError at h2
  by_cases e0 : n = "Misfit"
  · subst e0; simp at h1 h2; subst h1 h2; exact T.q_Misfit_ValueError
  by_cases e1 : n = "Taken"
  · subst e1; simp [e0] at h1 h2; subst h1 h2; exact T.q_Taken_ValueError
  by_cases e2 : n = "Unknown"
  · subst e2; simp [e0, e1] at h1 h2; subst h1 h2; exact T.q_Unknown_ValueError
  simp [e0, e1, e2] at h2
theorem ox_Misfit (T : Txt w K mg) : FnOk P w K mg base (L2N.CX P w) 1 T.fI_Misfit T.fdI_Misfit ["self", "kind"] (spX1 K T.a_Misfit "kind") := xinit1 T.FI_Misfit sc_Misfit rfl rfl fun cdv A outer s H E => pss_one (ps_ost (pv 0) (pv 1))
theorem ox_Taken (T : Txt w K mg) : FnOk P w K mg base (L2N.CX P w) 1 T.fI_Taken T.fdI_Taken ["self", "kind"] (spX1 K T.a_Taken "kind") := xinit1 T.FI_Taken sc_Taken rfl rfl fun cdv A outer s H E => pss_one (ps_ost (pv 0) (pv 1))
theorem ox_Unknown (T : Txt w K mg) : FnOk P w K mg base (L2N.CX P w) 1 T.fI_Unknown T.fdI_Unknown ["self", "kind"] (spX1 K T.a_Unknown "kind") := xinit1 T.FI_Unknown sc_Unknown rfl rfl fun cdv A outer s H E => pss_one (ps_ost (pv 0) (pv 1))
theorem ok_it_Grammar (T : Txt w K mg) : ItOk P w K mg base 1 T.f_Grammar_iter T.a_Grammar "order" := iter_ok T.F_Grammar_iter sc_Grammar_iter rfl rfl T.cl_Grammar T.na_Grammar_order T.b_Grammar_iter fun cdv A outer s H E => pss_one (ps_ret (pe_callB ItX.call_iterN (by rfl) T.n_iter (by decide +kernel) (pa_cons (pe_fld (pv 0) rfl) pa_nil)))
theorem ok_ln_Grammar (T : Txt w K mg) : FnOk P w K mg base (L2N.CX P w) 1 T.f_Grammar_len T.fd_Grammar_len ["self"] (spLn K T.a_Grammar "order") := len_ok T.F_Grammar_len sc_Grammar_len rfl rfl T.cl_Grammar T.na_Grammar_order fun cdv A outer s H E => pss_one (ps_ret (pe_callB call_lenX (by rfl) T.n_len (by decide +kernel) (pa_cons (pe_fld (pv 0) rfl) pa_nil)))
theorem okH_l_same (T : Txt w K mg) : ∀ {n : Nat}, L2H.FnH P w K mg base (L2N.CX P w) (1 + n) T.f_l_same T.fd_l_same ["_law_one", "_law_two"] (spD K T.cm [false, false] false (F_l_same n))
  | 0 => fnh_bad
  | n + 1 => dokH (G' := []) (k := 1 + n) T.F_l_same sc_l_same rfl (by decide) fun cdv A outer s H E p hr hc => by
    have ih := fun T => okH_l_same T (n := n)
    exact (ds_cons (ds_if gok0 (dt_cmp op_isN os_is (db_var 1 (pv 1) (.inl (by rfl))) (db_of de_non) (nomark _))
  (ds_one (ds_ret gok0 rfl (de_cmp op_isN os_is (db_var 0 (pv 0) (.inl (by rfl))) (db_of de_non) (nomark _))))
  ds_nil)
  (ds_cons (ds_if gok0 (dt_val (de_isi "str" T.n_isinstance (by rfl) (by rfl) T.n_str (by decide +kernel) (db_var 1 (pv 1) (.inl (by rfl)))))
  (ds_one (ds_ret gok0 rfl (de_and (de_isi "str" T.n_isinstance (by rfl) (by rfl) T.n_str (by decide +kernel) (db_var 0 (pv 0) (.inl (by rfl)))) (de_one (de_cmp (or_eq hr.units) os_eq (db_var 0 (pv 0) (.inl (by rfl))) (db_var 1 (pv 1) (.inl (by rfl))) (nomark _))))))
  ds_nil)
  (ds_cons (ds_if gok0 (dt_val (de_isi "int" T.n_isinstance (by rfl) (by rfl) T.n_int (by decide +kernel) (db_var 1 (pv 1) (.inl (by rfl)))))
  (ds_one (ds_ret gok0 rfl (de_and (de_isi "int" T.n_isinstance (by rfl) (by rfl) T.n_int (by decide +kernel) (db_var 0 (pv 0) (.inl (by rfl)))) (de_and (de_not (de_isi "bool" T.n_isinstance (by rfl) (by rfl) T.n_bool (by decide +kernel) (db_var 0 (pv 0) (.inl (by rfl))))) (de_one (de_cmp (or_eq hr.units) os_eq (db_var 0 (pv 0) (.inl (by rfl))) (db_var 1 (pv 1) (.inl (by rfl))) (nomark _)))))))
  ds_nil)
  (ds_cons (ds_if gok0 (PW.pt (dw_or (dt_cmp (or_ne hr.units) os_ne (db_of (de_isi "tuple" T.n_isinstance (by rfl) (by rfl) T.n_tuple (by decide +kernel) (db_var 1 (pv 1) (.inl (by rfl))))) (db_of (de_isi "tuple" T.n_isinstance (by rfl) (by rfl) T.n_tuple (by decide +kernel) (db_var 0 (pv 0) (.inl (by rfl))))) (nomark _)) (dw_or1 (dt_cmp (or_ne hr.units) os_ne (db_of (de_isi "list" T.n_isinstance (by rfl) (by rfl) T.n_list (by decide +kernel) (db_var 1 (pv 1) (.inl (by rfl))))) (db_of (de_isi "list" T.n_isinstance (by rfl) (by rfl) T.n_list (by decide +kernel) (db_var 0 (pv 0) (.inl (by rfl))))) (nomark _)))))
  (ds_one (ds_ret gok0 rfl de_bl))
  ds_nil)
  (ds_cons (ds_if gok0 (dt_cmp (or_ne hr.units) os_ne (db_of (de_bltn call_len cs_len (by rfl) T.n_len (by decide +kernel) (dm_bor (db_var 0 (pv 0) (.inl (by rfl))) dm_nil))) (db_of (de_bltn call_len cs_len (by rfl) T.n_len (by decide +kernel) (dm_bor (db_var 1 (pv 1) (.inl (by rfl))) dm_nil))) (nomark _))
  (ds_one (ds_ret gok0 rfl de_bl))
  ds_nil)
  (ds_cons (ds_forH gok0 (passes_of rfl) hc (di_rng1H T.n_range (by rfl) (da_cons (de_bltn call_len cs_len (by rfl) T.n_len (by decide +kernel) (dm_bor (db_var 1 (pv 1) (.inl (by rfl))) dm_nil)) da_nil)) (dg_name 2 sc_l_same.nd rfl (by first | exact Or.inl rfl | exact Or.inr rfl))
  (ds_one (ds_if gok0 (dt_not (dt_val (de_callHV (ih T) (L2N.takes_of rfl rfl rfl rfl) hr hc (by rfl) T.g_l_same T.F_l_same.kp T.b_l_same (dm_val (de_ix (db_var 0 (pv 0) (.inl (by rfl))) (db_var 2 (pv 2) (.inl (by rfl))) (fun _ _ => rfl)) (dm_val (de_ix (db_var 1 (pv 1) (.inl (by rfl))) (db_var 2 (pv 2) (.inl (by rfl))) (fun _ _ => rfl)) dm_nil)))))
  (ds_one (ds_ret gok0 rfl de_bl))
  ds_nil)))
  (ds_one (ds_ret gok0 rfl de_bl))))))))
theorem okH_l_may (T : Txt w K mg) : L2H.FnH P w K mg base (L2N.CX P w) 1 T.f_l_may T.fd_l_may ["_law_outer", "_law_inner"] (spD K T.cm [false, false] false F_l_may)   := dokH (G' := []) (k := 0) T.F_l_may sc_l_may rfl (by decide) fun cdv A outer s H E p hr hc =>
  (ds_cons (ds_if gok0 (dt_cmp (or_eq hr.units) os_eq (db_var 0 (pv 0) (.inl (by rfl))) (db_of (de_strL (by decide +kernel))) (nomark _))
  (ds_one (ds_ret gok0 rfl (de_or (de_cmp (or_eq hr.units) os_eq (db_var 1 (pv 1) (.inl (by rfl))) (db_of (de_strL (by decide +kernel))) (nomark _)) (de_one (de_cmp (or_eq hr.units) os_eq (db_var 1 (pv 1) (.inl (by rfl))) (db_of (de_strL (by decide +kernel))) (nomark _))))))
  ds_nil)
  (ds_cons (ds_if gok0 (dt_cmp (or_eq hr.units) os_eq (db_var 0 (pv 0) (.inl (by rfl))) (db_of (de_strL (by decide +kernel))) (nomark _))
  (ds_one (ds_ret gok0 rfl (de_cmp (or_in (hu65h hr)) os_in (db_var 1 (pv 1) (.inl (by rfl))) (db_own (de_lst (da_cons (de_strL (by decide +kernel)) (da_cons (de_strL (by decide +kernel)) (da_cons (de_strL (by decide +kernel)) (da_cons (de_strL (by decide +kernel)) da_nil)))))) (by rfl))))
  ds_nil)
  (ds_cons (ds_if gok0 (PW.pt (dw_or (dt_cmp (or_eq hr.units) os_eq (db_var 0 (pv 0) (.inl (by rfl))) (db_of (de_strL (by decide +kernel))) (nomark _)) (dw_or1 (dt_cmp (or_eq hr.units) os_eq (db_var 0 (pv 0) (.inl (by rfl))) (db_of (de_strL (by decide +kernel))) (nomark _)))))
  (ds_one (ds_ret gok0 rfl (de_or (de_cmp (or_eq hr.units) os_eq (db_var 1 (pv 1) (.inl (by rfl))) (db_of (de_strL (by decide +kernel))) (nomark _)) (de_one (de_cmp (or_eq hr.units) os_eq (db_var 1 (pv 1) (.inl (by rfl))) (db_of (de_strL (by decide +kernel))) (nomark _))))))
  ds_nil)
  (ds_one (ds_ret gok0 rfl (de_and (de_or (de_cmp (or_eq hr.units) os_eq (db_var 0 (pv 0) (.inl (by rfl))) (db_of (de_strL (by decide +kernel))) (nomark _)) (de_one (de_cmp (or_eq hr.units) os_eq (db_var 0 (pv 0) (.inl (by rfl))) (db_of (de_strL (by decide +kernel))) (nomark _)))) (de_one (de_cmp (or_eq hr.units) os_eq (db_var 1 (pv 1) (.inl (by rfl))) (db_of (de_strL (by decide +kernel))) (nomark _)))))))))
theorem okH_l_due (T : Txt w K mg) : L2H.FnH P w K mg base (L2N.CX P w) 2 T.f_l_due T.fd_l_due ["_law_top", "_law_rows"] (spD K T.cm [false, false] false F_l_due)   := dokH (G' := []) (k := 1) T.F_l_due sc_l_due rfl (by decide) fun cdv A outer s H E p hr hc =>
  (ds_cons (ds_setO 2 gok0 (show 2 < 5 by decide) sc_l_due.nd rfl (by first | exact Or.inl rfl | exact Or.inr rfl) de_dnew)
  (ds_cons (ds_forH gok0 (passes_of rfl) hc (di_listH (de_var 1 (pv 1) rfl)) (dg_name 3 sc_l_due.nd rfl (by first | exact Or.inl rfl | exact Or.inr rfl))
  (ds_cons (ds_if gok0 (dt_cmp (op_inK (hu65h hr)) os_inK (db_of (de_ix (db_var 3 (pv 3) (.inl (by rfl))) (db_of de_int) (fun _ _ => rfl))) (db_var 2 (pv 2) (.inr (.inl (by trivial)))) (by rfl))
  (ds_one (ds_ret gok0 rfl (de_tup (da_cons (de_strL (by decide +kernel)) (da_cons (de_ix (db_var 3 (pv 3) (.inl (by rfl))) (db_of de_int) (fun _ _ => rfl)) da_nil)))))
  ds_nil)
  (ds_one (ds_put 2 gok0 (hu65h hr) rfl (pv 2) (de_ix (db_var 3 (pv 3) (.inl (by rfl))) (db_of de_int) (fun _ _ => rfl)) (de_ix (db_var 3 (pv 3) (.inl (by rfl))) (db_of de_int) (fun _ _ => rfl))))))
  (ds_cons (ds_if gok0 (dt_cmp (op_ninK (hu65h hr)) os_inK (db_var 0 (pv 0) (.inl (by rfl))) (db_var 2 (pv 2) (.inr (.inl (by trivial)))) (by rfl))
  (ds_one (ds_ret gok0 rfl (de_tup (da_cons (de_strL (by decide +kernel)) (da_cons (de_var 0 (pv 0) rfl) da_nil)))))
  ds_nil)
  (ds_cons (ds_if gok0 (dt_cmp (or_ne hr.units) os_ne (db_of (de_getZ (hu65h hr) (db_var 2 (pv 2) (.inr (.inl (by trivial)))) (db_var 0 (pv 0) (.inl (by rfl))) (fun _ _ => rfl))) (db_of (de_strL (by decide +kernel))) (nomark _))
  (ds_one (ds_ret gok0 rfl (de_tup (da_cons (de_strL (by decide +kernel)) (da_cons (de_var 0 (pv 0) rfl) da_nil)))))
  ds_nil)
  (ds_cons (ds_forH gok0 (passes_of rfl) hc (di_listH (de_var 1 (pv 1) rfl)) (dg_name 3 sc_l_due.nd rfl (by first | exact Or.inl rfl | exact Or.inr rfl))
  (ds_one (ds_forH gok0 (passes_of rfl) hc (di_tupH (de_ix (db_var 3 (pv 3) (.inl (by rfl))) (db_of de_int) (fun _ _ => rfl))) (dg_name 4 sc_l_due.nd rfl (by first | exact Or.inl rfl | exact Or.inr rfl))
  (ds_cons (ds_if gok0 (dt_cmp (op_ninK (hu65h hr)) os_inK (db_var 4 (pv 4) (.inl (by rfl))) (db_var 2 (pv 2) (.inr (.inl (by trivial)))) (by rfl))
  (ds_one (ds_ret gok0 rfl (de_tup (da_cons (de_strL (by decide +kernel)) (da_cons (de_var 4 (pv 4) rfl) da_nil)))))
  ds_nil)
  (ds_one (ds_if gok0 (dt_not (dt_val (de_callHV (okH_l_may T) (L2N.takes_of rfl rfl rfl rfl) (hr.mono (by decide)) hc (by rfl) T.g_l_may T.F_l_may.kp T.b_l_may (dm_val (de_ix (db_var 3 (pv 3) (.inl (by rfl))) (db_of de_int) (fun _ _ => rfl)) (dm_val (de_getZ (hu65h hr) (db_var 2 (pv 2) (.inr (.inl (by trivial)))) (db_var 4 (pv 4) (.inl (by rfl))) (fun _ _ => rfl)) dm_nil)))))
  (ds_one (ds_ret gok0 rfl (de_tup (da_cons (de_strL (by decide +kernel)) (da_cons (de_var 4 (pv 4) rfl) da_nil)))))
  ds_nil))))))
  (ds_one (ds_ret gok0 rfl (de_tup (da_cons (de_strL (by decide +kernel)) (da_cons (de_strL (by decide +kernel)) da_nil))))))))))
theorem ok_Grammar_check_inner (T : Txt w K mg) : FnOk P w K mg base (L2N.CX P w) 3 T.f_Grammar_check_inner T.fd_Grammar_check_inner ["self", "kind"] (spD K T.cm [true, false] false F_Grammar_check_inner)   := dok (k := 2) T.F_Grammar_check_inner sc_Grammar_check_inner rfl (by decide) fun cdv A outer s H E hr =>
  (ds_cons (ds_asg gok0 (de_getZ (hu65 hr) (db_of (de_fld T.cm_Grammar T.cl_Grammar T.na_Grammar_entries (db_var 0 (pv 0) (.inr (.inr (by rfl)))))) (db_var 1 (pv 1) (.inl (by rfl))) (fun _ _ => rfl)) (dg_tup rfl (dg_cons (dg_name 2 sc_Grammar_check_inner.nd rfl (by first | exact Or.inl rfl | exact Or.inr rfl)) (dg_cons (dg_name 3 sc_Grammar_check_inner.nd rfl (by first | exact Or.inl rfl | exact Or.inr rfl)) dg_nil))))
  (ds_one (ds_for gok0 (passes_of rfl) rfl (di_tup (de_var 3 (pv 3) rfl)) (dg_name 4 sc_Grammar_check_inner.nd rfl (by first | exact Or.inl rfl | exact Or.inr rfl))
  (ds_cons (ds_if gok0 (dt_cmp (op_ninK (hu65 hr)) os_inK (db_var 4 (pv 4) (.inl (by rfl))) (db_of (de_fld T.cm_Grammar T.cl_Grammar T.na_Grammar_entries (db_var 0 (pv 0) (.inr (.inr (by rfl)))))) (by rfl))
  (ds_one (ds_raise1 gok0 T.cm_Unknown rfl (L2N.takes_of rfl rfl rfl rfl) T.o_Unknown T.i_Unknown T.ti_Unknown T.no_Unknown_kind (ox_Unknown T) (hr.mono (by decide)) T.b_Unknown (by rfl) T.g_Unknown (da_cons (de_var 4 (pv 4) rfl) da_nil)))
  ds_nil)
  (ds_one (ds_if gok0 (dt_cmp op_notIn_seq os_inKt (db_of (de_ix (db_of (de_getZ (hu65 hr) (db_of (de_fld T.cm_Grammar T.cl_Grammar T.na_Grammar_entries (db_var 0 (pv 0) (.inr (.inr (by rfl)))))) (db_var 4 (pv 4) (.inl (by rfl))) (fun _ _ => rfl))) (db_of de_int) (fun _ _ => rfl))) (db_of (de_mdGet T.kd_INNER_ROLES (pe_glob (v := .ref T.k_INNER_ROLES) (by rfl) T.c_INNER_ROLES rfl) (db_var 2 (pv 2) (.inl (by rfl))) (fun _ _ => rfl))) (by rfl))
  (ds_one (ds_raise1 gok0 T.cm_Misfit rfl (L2N.takes_of rfl rfl rfl rfl) T.o_Misfit T.i_Misfit T.ti_Misfit T.no_Misfit_kind (ox_Misfit T) (hr.mono (by decide)) T.b_Misfit (by rfl) T.g_Misfit (da_cons (de_var 4 (pv 4) rfl) da_nil)))
  ds_nil))))))
theorem ok_Grammar_init (T : Txt w K mg) : FnOk P w K mg base (L2N.CX P w) 4 T.f_Grammar_init T.fd_Grammar_init ["self", "root", "rows"] (spI K T.cm T.a_Grammar [false, true] F_Grammar_init)   := dokI (k := 3) T.F_Grammar_init sc_Grammar_init T.cm_Grammar rfl (by decide) (fun _ => rfl) fun cdv A outer s H E a hr =>
  (ds_cons (ds_fst 0 gok0 T.cm_Grammar T.cl_Grammar T.na_Grammar_root trivial (pv 0) (de_var 1 (pv 1) rfl))
  (ds_gram (i := 0) (g1 := 6) (g2 := 7) (jb := 2) (Gj := fun q p v0 => [.j a [("root", v0), ("order", .ref q), ("entries", .ref p)], .v, .b, .v, .v, .v, .i q, .i p]) (by intro g h; have h : none = some g := h; cases h) (by decide) (by decide) T.cm_Grammar T.cl_Grammar T.na_Grammar_order T.na_Grammar_entries rfl (by decide) (fun | 0, h => absurd rfl h | 1, _ => .inl rfl | 2, _ => .inr ⟨rfl, rfl⟩ | 3, _ => .inl rfl | 4, _ => .inl rfl | 5, _ => .inl rfl | 6, _ => .inl rfl | 7, _ => .inl rfl | _ + 8, _ => .inl rfl) (pv 0) (pv 0) (de_lst da_nil) dLst_nil de_dnew (fun _ => rfl) rfl (by show ¬ Vis (defScope s_Grammar_init) (Str.ofString "self.order"); unfold Vis; decide +kernel) rfl (by show ¬ Vis (defScope s_Grammar_init) (Str.ofString "self.entries"); unfold Vis; decide +kernel) (fun q p v0 => ⟨rfl, rfl, rfl, fun | 0, h, _, _ => absurd rfl h | 1, _, _, _ => .inl rfl | 2, _, _, _ => .inr rfl | 3, _, _, _ => .inl rfl | 4, _, _, _ => .inl rfl | 5, _, _, _ => .inl rfl | 6, _, h, _ => absurd rfl h | 7, _, _, h => absurd rfl h | _ + 8, _, _, _ => .inl rfl⟩) (fun q p v0 => fun | 0, h, _, _ => absurd rfl h | 1, _, _, _ => rfl | 2, _, _, _ => rfl | 3, _, _, _ => rfl | 4, _, _, _ => rfl | 5, _, _, _ => rfl | 6, _, h, _ => absurd rfl h | 7, _, _, h => absurd rfl h | _ + 8, _, _, _ => rfl)
  (fun q p v0 => (ds_for gok0 (passes_of rfl) rfl (di_bor 2 (pv 2) rfl) (dg_tup rfl (dg_cons (dg_name 3 sc_Grammar_init.nd rfl (by first | exact Or.inl rfl | exact Or.inr rfl)) (dg_cons (dg_name 4 sc_Grammar_init.nd rfl (by first | exact Or.inl rfl | exact Or.inr rfl)) (dg_cons (dg_name 5 sc_Grammar_init.nd rfl (by first | exact Or.inl rfl | exact Or.inr rfl)) dg_nil))))
  (ds_cons (ds_if gok0 (dt_cmp (op_inK (hu65 hr)) os_inK (db_var 3 (pv 3) (.inl (by rfl))) (de_jfld T.cm_Grammar T.cl_Grammar T.na_Grammar_entries rfl rfl rfl (pv 0)) (by rfl))
  (ds_one (ds_raise1 gok0 T.cm_Taken rfl (L2N.takes_of rfl rfl rfl rfl) T.o_Taken T.i_Taken T.ti_Taken T.no_Taken_kind (ox_Taken T) (hr.mono (by decide)) T.b_Taken (by rfl) T.g_Taken (da_cons (de_var 3 (pv 3) rfl) da_nil)))
  ds_nil)
  (ds_cons (ds_putJ gok0 hr T.cm_Grammar T.cl_Grammar T.na_Grammar_entries rfl rfl rfl (pv 0) (de_var 3 (pv 3) rfl) (de_tup (da_cons (de_var 4 (pv 4) rfl) (da_cons (de_type call_tuple_of cs_tuple (by rfl) T.n_tuple (by decide +kernel) (dm_bor (db_var 5 (pv 5) (.inl (by rfl))) dm_nil)) da_nil))))
  (ds_one (ds_appJ gok0 T.cm_Grammar T.cl_Grammar T.na_Grammar_order rfl rfl rfl (pv 0) (de_var 3 (pv 3) rfl)))))))
  (ds_cons (ds_if gok0 (dt_cmp (op_ninK (hu65 hr)) os_inK (db_var 1 (pv 1) (.inl (by rfl))) (db_of (de_fld T.cm_Grammar T.cl_Grammar T.na_Grammar_entries (db_var 0 (pv 0) (.inr (.inl (by trivial)))))) (by rfl))
  (ds_one (ds_raise1 gok0 T.cm_Unknown rfl (L2N.takes_of rfl rfl rfl rfl) T.o_Unknown T.i_Unknown T.ti_Unknown T.no_Unknown_kind (ox_Unknown T) (hr.mono (by decide)) T.b_Unknown (by rfl) T.g_Unknown (da_cons (de_var 1 (pv 1) rfl) da_nil)))
  ds_nil)
  (ds_cons (ds_if gok0 (dt_cmp (or_ne hr.units) os_ne (db_of (de_ix (db_of (de_getZ (hu65 hr) (db_of (de_fld T.cm_Grammar T.cl_Grammar T.na_Grammar_entries (db_var 0 (pv 0) (.inr (.inl (by trivial)))))) (db_var 1 (pv 1) (.inl (by rfl))) (fun _ _ => rfl))) (db_of de_int) (fun _ _ => rfl))) (db_of (de_strL (by decide +kernel))) (nomark _))
  (ds_one (ds_raise1 gok0 T.cm_Misfit rfl (L2N.takes_of rfl rfl rfl rfl) T.o_Misfit T.i_Misfit T.ti_Misfit T.no_Misfit_kind (ox_Misfit T) (hr.mono (by decide)) T.b_Misfit (by rfl) T.g_Misfit (da_cons (de_var 1 (pv 1) rfl) da_nil)))
  ds_nil)
  (ds_one (ds_for gok0 (passes_of rfl) rfl (di_list (de_fld T.cm_Grammar T.cl_Grammar T.na_Grammar_order (db_var 0 (pv 0) (.inr (.inl (by trivial)))))) (dg_name 3 sc_Grammar_init.nd rfl (by first | exact Or.inl rfl | exact Or.inr rfl))
  (ds_one (ds_expr gok0 (de_meth (rm := false) T.cm_Grammar T.cl_Grammar T.m_Grammar_check_inner (ok_Grammar_check_inner T) (L2N.takes_of rfl rfl rfl rfl) (hr.mono (by decide)) T.b_Grammar_check_inner (db_var 0 (pv 0) (.inr (.inl (by trivial)))) (dm_val (de_var 3 (pv 3) rfl) dm_nil))))))))))
theorem ok_Grammar_usual (T : Txt w K mg) : FnOk P w K mg base (L2N.CX P w) 6 T.f_Grammar_usual T.fd_Grammar_usual [] (spD K T.cm [] false F_Grammar_usual)   := dok (G' := []) (k := 5) T.F_Grammar_usual sc_Grammar_usual rfl (by decide) fun cdv A outer s H E hr =>
  (ds_one (ds_ret gok0 rfl (de_pub (de_make T.mk_Grammar (ok_Grammar_init T) (L2N.takes_of rfl rfl rfl rfl) (hr.mono (by decide)) (by rfl) T.g_Grammar T.b_Grammar_init (dm_val (de_strL (by decide +kernel)) (dm_bor (db_own (de_lst (da_cons (de_tup (da_cons (de_strL (by decide +kernel)) (da_cons (de_strL (by decide +kernel)) (da_cons (de_tup (da_cons (de_strL (by decide +kernel)) (da_cons (de_strL (by decide +kernel)) da_nil))) da_nil)))) (da_cons (de_tup (da_cons (de_strL (by decide +kernel)) (da_cons (de_strL (by decide +kernel)) (da_cons (de_tup (da_cons (de_strL (by decide +kernel)) (da_cons (de_strL (by decide +kernel)) da_nil))) da_nil)))) (da_cons (de_tup (da_cons (de_strL (by decide +kernel)) (da_cons (de_strL (by decide +kernel)) (da_cons (de_tup (da_cons (de_strL (by decide +kernel)) (da_cons (de_strL (by decide +kernel)) (da_cons (de_strL (by decide +kernel)) (da_cons (de_strL (by decide +kernel)) da_nil))))) da_nil)))) (da_cons (de_tup (da_cons (de_strL (by decide +kernel)) (da_cons (de_strL (by decide +kernel)) (da_cons (de_tup (da_cons (de_strL (by decide +kernel)) (da_cons (de_strL (by decide +kernel)) da_nil))) da_nil)))) (da_cons (de_tup (da_cons (de_strL (by decide +kernel)) (da_cons (de_strL (by decide +kernel)) (da_cons (de_tup (da_cons (de_strL (by decide +kernel)) da_nil)) da_nil)))) (da_cons (de_tup (da_cons (de_strL (by decide +kernel)) (da_cons (de_strL (by decide +kernel)) (da_cons (de_tup (da_cons (de_strL (by decide +kernel)) da_nil)) da_nil)))) (da_cons (de_tup (da_cons (de_strL (by decide +kernel)) (da_cons (de_strL (by decide +kernel)) (da_cons (de_tup da_nil) da_nil)))) da_nil))))))))) dm_nil))))))
theorem ok_Grammar_getitem (T : Txt w K mg) : FnOk P w K mg base (L2N.CX P w) 3 T.f_Grammar_getitem T.fd_Grammar_getitem ["self", "kind"] (spD K T.cm [true, false] false F_Grammar_getitem)   := dok (G' := []) (k := 2) T.F_Grammar_getitem sc_Grammar_getitem rfl (by decide) fun cdv A outer s H E hr =>
  (ds_cons (ds_if gok0 (dt_cmp (op_ninK (hu65 hr)) os_inK (db_var 1 (pv 1) (.inl (by rfl))) (db_of (de_fld T.cm_Grammar T.cl_Grammar T.na_Grammar_entries (db_var 0 (pv 0) (.inr (.inr (by rfl)))))) (by rfl))
  (ds_one (ds_raise1 gok0 T.cm_Unknown rfl (L2N.takes_of rfl rfl rfl rfl) T.o_Unknown T.i_Unknown T.ti_Unknown T.no_Unknown_kind (ox_Unknown T) (hr.mono (by decide)) T.b_Unknown (by rfl) T.g_Unknown (da_cons (de_var 1 (pv 1) rfl) da_nil)))
  ds_nil)
  (ds_one (ds_ret gok0 rfl (de_getZ (hu65 hr) (db_of (de_fld T.cm_Grammar T.cl_Grammar T.na_Grammar_entries (db_var 0 (pv 0) (.inr (.inr (by rfl)))))) (db_var 1 (pv 1) (.inl (by rfl))) (fun _ _ => rfl)))))
theorem ok_Grammar_contains (T : Txt w K mg) : FnOk P w K mg base (L2N.CX P w) 1 T.f_Grammar_contains T.fd_Grammar_contains ["self", "kind"] (spD K T.cm [true, true] false F_Grammar_contains)   := dok (G' := []) (k := 0) T.F_Grammar_contains sc_Grammar_contains rfl (by decide) fun cdv A outer s H E hr =>
  (ds_one (ds_ret gok0 rfl (de_cmp (op_inK (hu65 hr)) os_inK (db_var 1 (pv 1) (.inr (.inr (by rfl)))) (db_of (de_fld T.cm_Grammar T.cl_Grammar T.na_Grammar_entries (db_var 0 (pv 0) (.inr (.inr (by rfl)))))) (by rfl))))
theorem ok_Grammar_len (T : Txt w K mg) : FnOk P w K mg base (L2N.CX P w) 1 T.f_Grammar_len T.fd_Grammar_len ["self"] (spD K T.cm [true] false F_Grammar_len)   := dok (G' := []) (k := 0) T.F_Grammar_len sc_Grammar_len rfl (by decide) fun cdv A outer s H E hr =>
  (ds_one (ds_ret gok0 rfl (de_bltn call_len cs_len (by rfl) T.n_len (by decide +kernel) (dm_bor (db_of (de_fld T.cm_Grammar T.cl_Grammar T.na_Grammar_order (db_var 0 (pv 0) (.inr (.inr (by rfl)))))) dm_nil))))
theorem ok_l_cell (T : Txt w K mg) : FnOk P w K mg base (L2N.CX P w) 1 T.f_l_cell T.fd_l_cell ["_law_script", "_law_k"] (spD K T.cm [false, false] false F_l_cell)   := dok (G' := []) (k := 0) T.F_l_cell sc_l_cell rfl (by decide) fun cdv A outer s H E hr =>
  (ds_cons (ds_if gok0 (dt_cmp (or_eq hr.units) os_eq (db_of (de_bltn call_len cs_len (by rfl) T.n_len (by decide +kernel) (dm_bor (db_var 0 (pv 0) (.inl (by rfl))) dm_nil))) (db_of de_int) (nomark _))
  (ds_one (ds_ret gok0 rfl (de_op op_pow os_pow (db_of de_int) (db_of de_int))))
  ds_nil)
  (ds_cons (ds_if gok0 (dt_cmp or_lt os_ord (db_var 1 (pv 1) (.inl (by rfl))) (db_of (de_bltn call_len cs_len (by rfl) T.n_len (by decide +kernel) (dm_bor (db_var 0 (pv 0) (.inl (by rfl))) dm_nil))) (nomark _))
  (ds_one (ds_ret gok0 rfl (de_type cr_int cs_int (by rfl) T.n_int (by decide +kernel) (dm_bor (db_of (de_ix (db_var 0 (pv 0) (.inl (by rfl))) (db_var 1 (pv 1) (.inl (by rfl))) (fun _ _ => rfl))) dm_nil))))
  ds_nil)
  (ds_one (ds_ret gok0 rfl (de_op or_add os_add (db_of (de_op or_mulX os_mulX (db_of de_int) (db_var 1 (pv 1) (.inl (by rfl))))) (db_of (de_bltn (cr_sum rfl) cs_sum (by rfl) T.n_sum (by decide +kernel) (dm_bor (db_own (de_lc (own := [("_law_number", 2)]) rfl sc_l_cell.nd (di_list (de_var 0 (pv 0) rfl)) (blkOk_by (own := [("_law_number", 2)]) (N := ["_law_script", "_law_k", "_law_number"]) (sc := defScope s_l_cell) (by decide +kernel)) (fun _ _ _ _ _ => (dg_name 2 sc_l_cell.nd rfl (by first | exact Or.inl rfl | exact Or.inr rfl))) (fun _ _ _ _ _ => dt_nil) (fun _ _ _ _ _ => (de_op op_mod os_mod (db_of (de_type cr_int cs_int (by rfl) T.n_int (by decide +kernel) (dm_bor (db_var 2 (pv 2) (.inl (by rfl))) dm_nil))) (db_of de_int))))) dm_nil))))))))
theorem ok_l_row (T : Txt w K mg) : FnOk P w K mg base (L2N.CX P w) 1 T.f_l_row T.fd_l_row ["_law_cell_here", "_law_limits"] (spD K T.cm [false, false] false F_l_row)   := dok (G' := []) (k := 0) T.F_l_row sc_l_row rfl (by decide) fun cdv A outer s H E hr =>
  (ds_cons (ds_setO 2 gok0 (show 2 < 6 by decide) sc_l_row.nd rfl (by first | exact Or.inl rfl | exact Or.inr rfl) (de_lst da_nil))
  (ds_cons (ds_set 3 gok0 sc_l_row.nd rfl (by first | exact Or.inl rfl | exact Or.inr rfl) (de_bltn (call_max2 rfl) cs_ints2 (by rfl) T.n_max (by decide +kernel) (dm_bor (db_of de_int) (dm_bor (db_of (de_op op_sub os_sub (db_var 0 (pv 0) (.inl (by rfl))) (db_of (de_op op_pow os_pow (db_of de_int) (db_of de_int))))) dm_nil))))
  (ds_cons (ds_for gok0 (passes_of rfl) rfl (di_rng1 T.n_range (by rfl) (da_cons (de_bltn call_len cs_len (by rfl) T.n_len (by decide +kernel) (dm_bor (db_var 1 (pv 1) (.inl (by rfl))) dm_nil)) da_nil)) (dg_name 4 sc_l_row.nd rfl (by first | exact Or.inl rfl | exact Or.inr rfl))
  (ds_one (ds_if gok0 (PW.pt (dw_or (dt_cmp or_gt os_ord (db_var 3 (pv 3) (.inl (by rfl))) (db_of de_int) (nomark _)) (dw_or1 (dt_cmp (or_eq hr.units) os_eq (db_var 0 (pv 0) (.inl (by rfl))) (db_of (de_op op_pow os_pow (db_of de_int) (db_of de_int))) (nomark _)))))
  (ds_cons (ds_app 2 gok0 rfl (pv 2) (de_op op_mod os_mod (db_of (de_type cr_int cs_int (by rfl) T.n_int (by decide +kernel) (dm_bor (db_var 3 (pv 3) (.inl (by rfl))) dm_nil))) (db_of (de_ix (db_var 1 (pv 1) (.inl (by rfl))) (db_var 4 (pv 4) (.inl (by rfl))) (fun _ _ => rfl)))))
  (ds_one (ds_set 3 gok0 sc_l_row.nd rfl (by first | exact Or.inl rfl | exact Or.inr rfl) (de_op or_fdiv os_fdiv (db_var 3 (pv 3) (.inl (by rfl))) (db_of (de_ix (db_var 1 (pv 1) (.inl (by rfl))) (db_var 4 (pv 4) (.inl (by rfl))) (fun _ _ => rfl)))))))
  (ds_cons (ds_set 5 gok0 sc_l_row.nd rfl (by first | exact Or.inl rfl | exact Or.inr rfl) (de_op op_mod os_mod (db_of (de_type cr_int cs_int (by rfl) T.n_int (by decide +kernel) (dm_bor (db_of (de_op or_add os_add (db_of (de_op or_add os_add (db_of (de_op or_mulX os_mulX (db_var 0 (pv 0) (.inl (by rfl))) (db_of de_int))) (db_of (de_op or_mulX os_mulX (db_var 4 (pv 4) (.inl (by rfl))) (db_of de_int))))) (db_of de_int))) dm_nil))) (db_of de_int)))
  (ds_cons (ds_set 5 gok0 sc_l_row.nd rfl (by first | exact Or.inl rfl | exact Or.inr rfl) (de_op op_mod os_mod (db_of (de_type cr_int cs_int (by rfl) T.n_int (by decide +kernel) (dm_bor (db_of (de_op or_add os_add (db_of (de_op or_add os_add (db_of (de_op or_mulX os_mulX (db_var 5 (pv 5) (.inl (by rfl))) (db_of (de_op or_add os_add (db_of de_int) (db_of (de_op or_mulX os_mulX (db_of de_int) (db_var 4 (pv 4) (.inl (by rfl))))))))) (db_of (de_op or_mulX os_mulX (db_of (de_op or_mulX os_mulX (db_var 4 (pv 4) (.inl (by rfl))) (db_var 4 (pv 4) (.inl (by rfl))))) (db_of de_int))))) (db_of de_int))) dm_nil))) (db_of de_int)))
  (ds_one (ds_app 2 gok0 rfl (pv 2) (de_op op_mod os_mod (db_of (de_type cr_int cs_int (by rfl) T.n_int (by decide +kernel) (dm_bor (db_of (de_op or_fdiv os_fdiv (db_var 5 (pv 5) (.inl (by rfl))) (db_of de_int))) dm_nil))) (db_of (de_ix (db_var 1 (pv 1) (.inl (by rfl))) (db_var 4 (pv 4) (.inl (by rfl))) (fun _ _ => rfl)))))))))))
  (ds_pub 2 (ds_one (ds_ret gok0 rfl (de_var 2 (pv 2) rfl))) (.inl rfl)))))
theorem ok_l_same (T : Txt w K mg) : ∀ {n : Nat}, FnOk P w K mg base (L2N.CX P w) (1 + n) T.f_l_same T.fd_l_same ["_law_one", "_law_two"] (spD K T.cm [false, false] false (F_l_same n))
  | 0 => fnok_bad
  | n + 1 => dok (G' := []) (k := 1 + n) T.F_l_same sc_l_same rfl (by decide) fun cdv A outer s H E hr => by
    have ih := fun T => ok_l_same T (n := n)
    exact (ds_cons (ds_if gok0 (dt_cmp op_isN os_is (db_var 1 (pv 1) (.inl (by rfl))) (db_of de_non) (nomark _))
  (ds_one (ds_ret gok0 rfl (de_cmp op_isN os_is (db_var 0 (pv 0) (.inl (by rfl))) (db_of de_non) (nomark _))))
  ds_nil)
  (ds_cons (ds_if gok0 (dt_val (de_isi "str" T.n_isinstance (by rfl) (by rfl) T.n_str (by decide +kernel) (db_var 1 (pv 1) (.inl (by rfl)))))
  (ds_one (ds_ret gok0 rfl (de_and (de_isi "str" T.n_isinstance (by rfl) (by rfl) T.n_str (by decide +kernel) (db_var 0 (pv 0) (.inl (by rfl)))) (de_one (de_cmp (or_eq hr.units) os_eq (db_var 0 (pv 0) (.inl (by rfl))) (db_var 1 (pv 1) (.inl (by rfl))) (nomark _))))))
  ds_nil)
  (ds_cons (ds_if gok0 (dt_val (de_isi "int" T.n_isinstance (by rfl) (by rfl) T.n_int (by decide +kernel) (db_var 1 (pv 1) (.inl (by rfl)))))
  (ds_one (ds_ret gok0 rfl (de_and (de_isi "int" T.n_isinstance (by rfl) (by rfl) T.n_int (by decide +kernel) (db_var 0 (pv 0) (.inl (by rfl)))) (de_and (de_not (de_isi "bool" T.n_isinstance (by rfl) (by rfl) T.n_bool (by decide +kernel) (db_var 0 (pv 0) (.inl (by rfl))))) (de_one (de_cmp (or_eq hr.units) os_eq (db_var 0 (pv 0) (.inl (by rfl))) (db_var 1 (pv 1) (.inl (by rfl))) (nomark _)))))))
  ds_nil)
  (ds_cons (ds_if gok0 (PW.pt (dw_or (dt_cmp (or_ne hr.units) os_ne (db_of (de_isi "tuple" T.n_isinstance (by rfl) (by rfl) T.n_tuple (by decide +kernel) (db_var 1 (pv 1) (.inl (by rfl))))) (db_of (de_isi "tuple" T.n_isinstance (by rfl) (by rfl) T.n_tuple (by decide +kernel) (db_var 0 (pv 0) (.inl (by rfl))))) (nomark _)) (dw_or1 (dt_cmp (or_ne hr.units) os_ne (db_of (de_isi "list" T.n_isinstance (by rfl) (by rfl) T.n_list (by decide +kernel) (db_var 1 (pv 1) (.inl (by rfl))))) (db_of (de_isi "list" T.n_isinstance (by rfl) (by rfl) T.n_list (by decide +kernel) (db_var 0 (pv 0) (.inl (by rfl))))) (nomark _)))))
  (ds_one (ds_ret gok0 rfl de_bl))
  ds_nil)
  (ds_cons (ds_if gok0 (dt_cmp (or_ne hr.units) os_ne (db_of (de_bltn call_len cs_len (by rfl) T.n_len (by decide +kernel) (dm_bor (db_var 0 (pv 0) (.inl (by rfl))) dm_nil))) (db_of (de_bltn call_len cs_len (by rfl) T.n_len (by decide +kernel) (dm_bor (db_var 1 (pv 1) (.inl (by rfl))) dm_nil))) (nomark _))
  (ds_one (ds_ret gok0 rfl de_bl))
  ds_nil)
  (ds_cons (ds_for gok0 (passes_of rfl) rfl (di_rng1 T.n_range (by rfl) (da_cons (de_bltn call_len cs_len (by rfl) T.n_len (by decide +kernel) (dm_bor (db_var 1 (pv 1) (.inl (by rfl))) dm_nil)) da_nil)) (dg_name 2 sc_l_same.nd rfl (by first | exact Or.inl rfl | exact Or.inr rfl))
  (ds_one (ds_if gok0 (dt_not (dt_val (de_callV (ih T) (L2N.takes_of rfl rfl rfl rfl) hr (by rfl) T.g_l_same T.F_l_same.kp T.b_l_same (dm_val (de_ix (db_var 0 (pv 0) (.inl (by rfl))) (db_var 2 (pv 2) (.inl (by rfl))) (fun _ _ => rfl)) (dm_val (de_ix (db_var 1 (pv 1) (.inl (by rfl))) (db_var 2 (pv 2) (.inl (by rfl))) (fun _ _ => rfl)) dm_nil)))))
  (ds_one (ds_ret gok0 rfl de_bl))
  ds_nil)))
  (ds_one (ds_ret gok0 rfl de_bl))))))))
theorem ok_l_names (T : Txt w K mg) : FnOk P w K mg base (L2N.CX P w) 2 T.f_l_names T.fd_l_names ["_law_cell_here", "_law_many"] (spD K T.cm [false, false] false F_l_names)   := dok (G' := []) (k := 1) T.F_l_names sc_l_names rfl (by decide) fun cdv A outer s H E hr =>
  (ds_cons (ds_set 2 gok0 sc_l_names.nd rfl (by first | exact Or.inl rfl | exact Or.inr rfl) (de_strL (by decide +kernel)))
  (ds_cons (ds_set 3 gok0 sc_l_names.nd rfl (by first | exact Or.inl rfl | exact Or.inr rfl) (de_callV (ok_l_row T) (L2N.takes_of rfl rfl rfl rfl) (hr.mono (by decide)) (by rfl) T.g_l_row T.F_l_row.kp T.b_l_row (dm_val (de_var 0 (pv 0) rfl) (dm_val (de_op or_add os_add (db_own (de_lst (da_cons de_int (da_cons de_int da_nil)))) (db_of (de_op or_mulX os_mulX (db_own (de_lst (da_cons de_int (da_cons de_int (da_cons de_int (da_cons de_int (da_cons de_int (da_cons de_int (da_cons de_int (da_cons de_int (da_cons de_int da_nil))))))))))) (db_var 1 (pv 1) (.inl (by rfl)))))) dm_nil))))
  (ds_cons (ds_setO 4 gok0 (show 4 < 11 by decide) sc_l_names.nd rfl (by first | exact Or.inl rfl | exact Or.inr rfl) (de_lst da_nil))
  (ds_cons (ds_for gok0 (passes_of rfl) rfl (di_rng1 T.n_range (by rfl) (da_cons (de_var 1 (pv 1) rfl) da_nil)) (dg_name 5 sc_l_names.nd rfl (by first | exact Or.inl rfl | exact Or.inr rfl))
  (ds_cons (ds_set 6 gok0 sc_l_names.nd rfl (by first | exact Or.inl rfl | exact Or.inr rfl) (de_m1 PySem.F.slot_str_join PySem.F.type_str_join mt_join ms_join (db_of (de_strL (by decide +kernel))) (db_own (de_lc (own := [("_law_pick", 7)]) rfl sc_l_names.nd (di_list (de_sl (db_var 3 (pv 3) (.inl (by rfl))) (dp_some (de_op or_add os_add (db_of (de_op or_mulX os_mulX (db_of de_int) (db_var 5 (pv 5) (.inl (by rfl))))) (db_of de_int))) (dp_some (de_op or_add os_add (db_of (de_op or_mulX os_mulX (db_of de_int) (db_var 5 (pv 5) (.inl (by rfl))))) (db_of de_int))))) (blkOk_by (own := [("_law_pick", 7)]) (N := ["_law_cell_here", "_law_many", "_law_letters", "_law_row_here", "_law_names_here", "_law_k", "_law_word", "_law_pick", "_law_first", "_law_at", "_law_letter"]) (sc := defScope s_l_names) (by decide +kernel)) (fun _ _ _ _ _ => (dg_name 7 sc_l_names.nd rfl (by first | exact Or.inl rfl | exact Or.inr rfl))) (fun _ _ _ _ _ => dt_nil) (fun _ _ _ _ _ => (de_ix (db_var 2 (pv 2) (.inl (by rfl))) (db_var 7 (pv 7) (.inl (by rfl))) (fun _ _ => rfl)))))))
  (ds_one (ds_app 4 gok0 rfl (pv 4) (de_sl (db_var 6 (pv 6) (.inl (by rfl))) dp_none (dp_some (de_op or_add os_add (db_of (de_ix (db_var 3 (pv 3) (.inl (by rfl))) (db_of (de_op or_add os_add (db_of (de_op or_mulX os_mulX (db_of de_int) (db_var 5 (pv 5) (.inl (by rfl))))) (db_of de_int))) (fun _ _ => rfl))) (db_of de_int))))))))
  (ds_cons (ds_set 8 gok0 sc_l_names.nd rfl (by first | exact Or.inl rfl | exact Or.inr rfl) (de_ix (db_var 4 (pv 4) (.inr (.inl (by trivial)))) (db_of de_int) (fun _ _ => rfl)))
  (ds_cons (ds_set 9 gok0 sc_l_names.nd rfl (by first | exact Or.inl rfl | exact Or.inr rfl) (de_op op_mod os_mod (db_of (de_type cr_int cs_int (by rfl) T.n_int (by decide +kernel) (dm_bor (db_of (de_ix (db_var 3 (pv 3) (.inl (by rfl))) (db_of de_int) (fun _ _ => rfl))) dm_nil))) (db_of (de_bltn call_len cs_len (by rfl) T.n_len (by decide +kernel) (dm_bor (db_var 8 (pv 8) (.inl (by rfl))) dm_nil)))))
  (ds_cons (ds_for gok0 (passes_of rfl) rfl (di_rng1 T.n_range (by rfl) (da_cons (de_var 1 (pv 1) rfl) da_nil)) (dg_name 5 sc_l_names.nd rfl (by first | exact Or.inl rfl | exact Or.inr rfl))
  (ds_cons (ds_if gok0 (dt_cmp (or_eq hr.units) os_eq (db_of (de_ix (db_var 3 (pv 3) (.inl (by rfl))) (db_of de_int) (fun _ _ => rfl))) (db_of de_int) (nomark _))
  (ds_cons (ds_set 10 gok0 sc_l_names.nd rfl (by first | exact Or.inl rfl | exact Or.inr rfl) (de_ix (db_var 2 (pv 2) (.inl (by rfl))) (db_of (de_op op_mod os_mod (db_of (de_type cr_int cs_int (by rfl) T.n_int (by decide +kernel) (dm_bor (db_of (de_op or_add os_add (db_of (de_ix (db_var 3 (pv 3) (.inl (by rfl))) (db_of de_int) (fun _ _ => rfl))) (db_of (de_op or_mulX os_mulX (db_of de_int) (db_var 5 (pv 5) (.inl (by rfl))))))) dm_nil))) (db_of de_int))) (fun _ _ => rfl)))
  (ds_one (ds_sto 4 gok0 rfl (pv 4) (de_var 5 (pv 5) rfl) (de_op or_add os_add (db_of (de_op or_add os_add (db_of (de_sl (db_var 8 (pv 8) (.inl (by rfl))) dp_none (dp_some (de_var 9 (pv 9) rfl)))) (db_var 10 (pv 10) (.inl (by rfl))))) (db_of (de_sl (db_var 8 (pv 8) (.inl (by rfl))) (dp_some (de_op or_add os_add (db_var 9 (pv 9) (.inl (by rfl))) (db_of de_int))) dp_none))))))
  ds_nil)
  (ds_one (ds_if gok0 (dt_cmp (or_eq hr.units) os_eq (db_of (de_ix (db_var 3 (pv 3) (.inl (by rfl))) (db_of de_int) (fun _ _ => rfl))) (db_of de_int) (nomark _))
  (ds_one (ds_sto 4 gok0 rfl (pv 4) (de_var 5 (pv 5) rfl) (de_sl (db_of (de_op or_mulX os_mulX (db_var 8 (pv 8) (.inl (by rfl))) (db_of de_int))) dp_none (dp_some (de_op or_add os_add (db_of de_int) (db_of (de_op op_mod os_mod (db_of (de_type cr_int cs_int (by rfl) T.n_int (by decide +kernel) (dm_bor (db_var 5 (pv 5) (.inl (by rfl))) dm_nil))) (db_of de_int))))))))
  ds_nil))))
  (ds_pub 4 (ds_one (ds_ret gok0 rfl (de_var 4 (pv 4) rfl))) (.inl rfl)))))))))
theorem ok_l_kinds (T : Txt w K mg) : FnOk P w K mg base (L2N.CX P w) 3 T.f_l_kinds T.fd_l_kinds ["_law_cell_here", "_law_many"] (spD K T.cm [false, false] false F_l_kinds)   := dok (G' := []) (k := 2) T.F_l_kinds sc_l_kinds rfl (by decide) fun cdv A outer s H E hr =>
  (ds_cons (ds_setO 2 gok0 (show 2 < 5 by decide) sc_l_kinds.nd rfl (by first | exact Or.inl rfl | exact Or.inr rfl) (de_lst da_nil))
  (ds_cons (ds_for gok0 (passes_of rfl) rfl (di_list (de_callV (ok_l_names T) (L2N.takes_of rfl rfl rfl rfl) (hr.mono (by decide)) (by rfl) T.g_l_names T.F_l_names.kp T.b_l_names (dm_val (de_var 0 (pv 0) rfl) (dm_val (de_var 1 (pv 1) rfl) dm_nil)))) (dg_name 3 sc_l_kinds.nd rfl (by first | exact Or.inl rfl | exact Or.inr rfl))
  (ds_cons (ds_for gok0 (passes_of rfl) rfl (di_str (de_strL (by decide +kernel))) (dg_name 4 sc_l_kinds.nd rfl (by first | exact Or.inl rfl | exact Or.inr rfl))
  (ds_one (ds_if gok0 (dt_cmp (or_in (hu65 hr)) os_in (db_var 3 (pv 3) (.inl (by rfl))) (db_var 2 (pv 2) (.inr (.inl (by trivial)))) (by rfl))
  (ds_one (ds_set 3 gok0 sc_l_kinds.nd rfl (by first | exact Or.inl rfl | exact Or.inr rfl) (de_op or_add os_add (db_of (de_sl (db_var 3 (pv 3) (.inl (by rfl))) dp_none (dp_some de_int))) (db_var 4 (pv 4) (.inl (by rfl))))))
  ds_nil)))
  (ds_one (ds_app 2 gok0 rfl (pv 2) (de_var 3 (pv 3) rfl)))))
  (ds_pub 2 (ds_one (ds_ret gok0 rfl (de_var 2 (pv 2) rfl))) (.inl rfl))))
theorem ok_l_may (T : Txt w K mg) : FnOk P w K mg base (L2N.CX P w) 1 T.f_l_may T.fd_l_may ["_law_outer", "_law_inner"] (spD K T.cm [false, false] false F_l_may)   := dok (G' := []) (k := 0) T.F_l_may sc_l_may rfl (by decide) fun cdv A outer s H E hr =>
  (ds_cons (ds_if gok0 (dt_cmp (or_eq hr.units) os_eq (db_var 0 (pv 0) (.inl (by rfl))) (db_of (de_strL (by decide +kernel))) (nomark _))
  (ds_one (ds_ret gok0 rfl (de_or (de_cmp (or_eq hr.units) os_eq (db_var 1 (pv 1) (.inl (by rfl))) (db_of (de_strL (by decide +kernel))) (nomark _)) (de_one (de_cmp (or_eq hr.units) os_eq (db_var 1 (pv 1) (.inl (by rfl))) (db_of (de_strL (by decide +kernel))) (nomark _))))))
  ds_nil)
  (ds_cons (ds_if gok0 (dt_cmp (or_eq hr.units) os_eq (db_var 0 (pv 0) (.inl (by rfl))) (db_of (de_strL (by decide +kernel))) (nomark _))
  (ds_one (ds_ret gok0 rfl (de_cmp (or_in (hu65 hr)) os_in (db_var 1 (pv 1) (.inl (by rfl))) (db_own (de_lst (da_cons (de_strL (by decide +kernel)) (da_cons (de_strL (by decide +kernel)) (da_cons (de_strL (by decide +kernel)) (da_cons (de_strL (by decide +kernel)) da_nil)))))) (by rfl))))
  ds_nil)
  (ds_cons (ds_if gok0 (PW.pt (dw_or (dt_cmp (or_eq hr.units) os_eq (db_var 0 (pv 0) (.inl (by rfl))) (db_of (de_strL (by decide +kernel))) (nomark _)) (dw_or1 (dt_cmp (or_eq hr.units) os_eq (db_var 0 (pv 0) (.inl (by rfl))) (db_of (de_strL (by decide +kernel))) (nomark _)))))
  (ds_one (ds_ret gok0 rfl (de_or (de_cmp (or_eq hr.units) os_eq (db_var 1 (pv 1) (.inl (by rfl))) (db_of (de_strL (by decide +kernel))) (nomark _)) (de_one (de_cmp (or_eq hr.units) os_eq (db_var 1 (pv 1) (.inl (by rfl))) (db_of (de_strL (by decide +kernel))) (nomark _))))))
  ds_nil)
  (ds_one (ds_ret gok0 rfl (de_and (de_or (de_cmp (or_eq hr.units) os_eq (db_var 0 (pv 0) (.inl (by rfl))) (db_of (de_strL (by decide +kernel))) (nomark _)) (de_one (de_cmp (or_eq hr.units) os_eq (db_var 0 (pv 0) (.inl (by rfl))) (db_of (de_strL (by decide +kernel))) (nomark _)))) (de_one (de_cmp (or_eq hr.units) os_eq (db_var 1 (pv 1) (.inl (by rfl))) (db_of (de_strL (by decide +kernel))) (nomark _)))))))))
theorem ok_l_grammar (T : Txt w K mg) : FnOk P w K mg base (L2N.CX P w) 2 T.f_l_grammar T.fd_l_grammar ["_law_cell_here", "_law_kinds_here"] (spD K T.cm [false, false] false F_l_grammar)   := dok (G' := []) (k := 1) T.F_l_grammar sc_l_grammar rfl (by decide) fun cdv A outer s H E hr =>
  (ds_cons (ds_set 2 gok0 sc_l_grammar.nd rfl (by first | exact Or.inl rfl | exact Or.inr rfl) (de_bltn call_len cs_len (by rfl) T.n_len (by decide +kernel) (dm_bor (db_var 1 (pv 1) (.inl (by rfl))) dm_nil)))
  (ds_cons (ds_set 3 gok0 sc_l_grammar.nd rfl (by first | exact Or.inl rfl | exact Or.inr rfl) (de_callV (ok_l_row T) (L2N.takes_of rfl rfl rfl rfl) (hr.mono (by decide)) (by rfl) T.g_l_row T.F_l_row.kp T.b_l_row (dm_val (de_var 0 (pv 0) rfl) (dm_val (de_op or_add os_add (db_own (de_lst (da_cons (de_var 2 (pv 2) rfl) (da_cons de_int da_nil)))) (db_of (de_op or_mulX os_mulX (db_own (de_lst (da_cons de_int (da_cons de_int (da_cons (de_var 2 (pv 2) rfl) da_nil))))) (db_var 2 (pv 2) (.inl (by rfl)))))) dm_nil))))
  (ds_cons (ds_set 4 gok0 sc_l_grammar.nd rfl (by first | exact Or.inl rfl | exact Or.inr rfl) (de_pub (de_lst (da_cons (de_strL (by decide +kernel)) (da_cons (de_strL (by decide +kernel)) (da_cons (de_strL (by decide +kernel)) (da_cons (de_strL (by decide +kernel)) (da_cons (de_strL (by decide +kernel)) (da_cons (de_strL (by decide +kernel)) (da_cons (de_strL (by decide +kernel)) (da_cons (de_strL (by decide +kernel)) (da_cons (de_strL (by decide +kernel)) da_nil))))))))))))
  (ds_cons (ds_setLc 5 gok0 (by decide) rfl sc_l_grammar.nd rfl rfl (sw_true rfl rfl rfl (by decide +kernel)) (own := [("_law_k", 6)]) (di_rng1 T.n_range (by rfl) (da_cons (de_var 2 (pv 2) rfl) da_nil)) (blkOk_by (own := [("_law_k", 6)]) (N := ["_law_cell_here", "_law_kinds_here", "_law_many", "_law_row_here", "_law_menu", "_law_roles", "_law_k", "_law_rows", "_law_bits", "_law_inner", "_law_j", "_law_at"]) (sc := defScope s_l_grammar) (by decide +kernel)) (fun _ _ _ _ _ => (dg_name 6 sc_l_grammar.nd rfl (by first | exact Or.inl rfl | exact Or.inr rfl))) (fun _ _ _ _ _ => dt_nil) (fun _ _ _ _ _ => (de_ix (db_var 4 (pv 4) (.inl (by rfl))) (db_of (de_ix (db_var 3 (pv 3) (.inl (by rfl))) (db_of (de_op or_add os_add (db_of (de_op or_mulX os_mulX (db_of de_int) (db_var 6 (pv 6) (.inl (by rfl))))) (db_of de_int))) (fun _ _ => rfl))) (fun _ _ => rfl))))
  (ds_cons (ds_sto 5 gok0 rfl (pv 5) (de_ix (db_var 3 (pv 3) (.inl (by rfl))) (db_of de_int) (fun _ _ => rfl)) (de_strL (by decide +kernel)))
  (ds_cons (ds_setO 7 gok0 (show 7 < 12 by decide) sc_l_grammar.nd rfl (by first | exact Or.inl rfl | exact Or.inr rfl) (de_lst da_nil))
  (ds_cons (ds_for gok0 (passes_of rfl) rfl (di_rng1 T.n_range (by rfl) (da_cons (de_var 2 (pv 2) rfl) da_nil)) (dg_name 6 sc_l_grammar.nd rfl (by first | exact Or.inl rfl | exact Or.inr rfl))
  (ds_pubE (G' := [.v, .v, .v, .v, .v, .o, .v, .o, .v, .o, .v, .v]) 9 (ds_cons (ds_parVO 8 9 gok0 rfl sc_l_grammar.nd rfl rfl (by decide) (by decide) rfl rfl (de_ix (db_var 3 (pv 3) (.inl (by rfl))) (db_of (de_op or_add os_add (db_of (de_op or_mulX os_mulX (db_of de_int) (db_var 6 (pv 6) (.inl (by rfl))))) (db_of de_int))) (fun _ _ => rfl)) (de_lst da_nil) (by rfl))
  (ds_cons (ds_for gok0 (passes_of rfl) rfl (di_rng1 T.n_range (by rfl) (da_cons (de_var 2 (pv 2) rfl) da_nil)) (dg_name 10 sc_l_grammar.nd rfl (by first | exact Or.inl rfl | exact Or.inr rfl))
  (ds_cons (ds_set 11 gok0 sc_l_grammar.nd rfl (by first | exact Or.inl rfl | exact Or.inr rfl) (de_op op_mod os_mod (db_of (de_type cr_int cs_int (by rfl) T.n_int (by decide +kernel) (dm_bor (db_of (de_op or_add os_add (db_var 10 (pv 10) (.inl (by rfl))) (db_of (de_ix (db_var 3 (pv 3) (.inl (by rfl))) (db_of (de_op or_add os_add (db_of (de_op or_mulX os_mulX (db_of de_int) (db_var 6 (pv 6) (.inl (by rfl))))) (db_of de_int))) (fun _ _ => rfl))))) dm_nil))) (db_var 2 (pv 2) (.inl (by rfl)))))
  (ds_cons (ds_if gok0 (PW.pt (dw_and (dt_cmp (or_eq hr.units) os_eq (db_of (de_op op_mod os_mod (db_of (de_type cr_int cs_int (by rfl) T.n_int (by decide +kernel) (dm_bor (db_var 8 (pv 8) (.inl (by rfl))) dm_nil))) (db_of de_int))) (db_of de_int) (nomark _)) (dw_and1 (dt_val (de_callV (ok_l_may T) (L2N.takes_of rfl rfl rfl rfl) (hr.mono (by decide)) (by rfl) T.g_l_may T.F_l_may.kp T.b_l_may (dm_val (de_ix (db_var 5 (pv 5) (.inr (.inl (by trivial)))) (db_var 6 (pv 6) (.inl (by rfl))) (fun _ _ => rfl)) (dm_val (de_ix (db_var 5 (pv 5) (.inr (.inl (by trivial)))) (db_var 11 (pv 11) (.inl (by rfl))) (fun _ _ => rfl)) dm_nil)))))))
  (ds_one (ds_app 9 gok0 rfl (pv 9) (de_ix (db_var 1 (pv 1) (.inl (by rfl))) (db_var 11 (pv 11) (.inl (by rfl))) (fun _ _ => rfl))))
  ds_nil)
  (ds_one (ds_set 8 gok0 sc_l_grammar.nd rfl (by first | exact Or.inl rfl | exact Or.inr rfl) (de_op or_fdiv os_fdiv (db_var 8 (pv 8) (.inl (by rfl))) (db_of de_int)))))))
  (ds_cons (ds_if gok0 (dt_cmp (or_eq hr.units) os_eq (db_of (de_ix (db_var 3 (pv 3) (.inl (by rfl))) (db_of de_int) (fun _ _ => rfl))) (db_of de_int) (nomark _))
  (ds_one (ds_rev 9 rfl (pv 9)))
  ds_nil)
  (ds_one (ds_app 7 gok0 rfl (pv 7) (de_tup (da_cons (de_ix (db_var 1 (pv 1) (.inl (by rfl))) (db_var 6 (pv 6) (.inl (by rfl))) (fun _ _ => rfl)) (da_cons (de_ix (db_var 5 (pv 5) (.inr (.inl (by trivial)))) (db_var 6 (pv 6) (.inl (by rfl))) (fun _ _ => rfl)) (da_cons (de_type call_tuple_of cs_tuple (by rfl) T.n_tuple (by decide +kernel) (dm_bor (db_var 9 (pv 9) (.inr (.inl (by trivial)))) dm_nil)) da_nil))))))))) (.inl rfl)))
  (ds_pub 7 (ds_one (ds_ret gok0 rfl (de_tup (da_cons (de_ix (db_var 1 (pv 1) (.inl (by rfl))) (db_of (de_ix (db_var 3 (pv 3) (.inl (by rfl))) (db_of de_int) (fun _ _ => rfl))) (fun _ _ => rfl)) (da_cons (de_var 7 (pv 7) rfl) da_nil))))) (.inl rfl)))))))))
theorem okX_l_error (T : Txt w K mg) : FnX P w K mg base 1 T.f_l_error T.fd_l_error ["_law_e"] isM_LaidError T.cm F_l_error   := dokX (G' := []) (k := 0) T.F_l_error sc_l_error rfl (by decide) fun cdv A outer s H E a C dd oe hr hin hz hf =>
  (ds_cons (ds_if gok0 (PW.pt (dw_or (dt_not (dt_val (de_isXP (v := .ty "ValueError") (cv := .type "ValueError") (isM := isM_ValueError) rfl (T.xc_of_LaidError hin) List.mem_cons_self hz hf (fun _ h => h) (fun n b h1 h2 => T.isi_ValueError n _ b h1 h2) T.n_isinstance (by rfl) (pv 0) (pe_bltn (u := .type "ValueError") (by rfl) T.n_ValueError (by decide +kernel) rfl)))) (dw_or1 (dt_val (de_isXP (v := .ref T.a_Strange) (cv := .ref T.a_Strange) (isM := isM_Strange) rfl (T.xc_of_LaidError hin) List.mem_cons_self hz hf (fun _ h => h) (fun n b h1 h2 => T.isi_Strange n _ b h1 h2) T.n_isinstance (by rfl) (pv 0) (pe_glob (by rfl) T.g_Strange rfl))))))
  (ds_one (ds_ret gok0 rfl (de_tup (da_cons (de_strL (by decide +kernel)) (da_cons (de_strL (by decide +kernel)) da_nil)))))
  ds_nil)
  (ds_cons (ds_if gok0 (PW.pt (dw_and (dt_val (de_isXP (v := .ref T.a_Taken) (cv := .ref T.a_Taken) (isM := isM_Taken) rfl (T.xc_of_LaidError hin) List.mem_cons_self hz hf (fun _ h => h) (fun n b h1 h2 => T.isi_Taken n _ b h1 h2) T.n_isinstance (by rfl) (pv 0) (pe_glob (by rfl) T.g_Taken rfl))) (dw_and (dt_not (dt_val (de_isXP (v := .ref T.a_Unknown) (cv := .ref T.a_Unknown) (isM := isM_Unknown) rfl (T.xc_of_LaidError hin) List.mem_cons_self hz hf (fun _ h => h) (fun n b h1 h2 => T.isi_Unknown n _ b h1 h2) T.n_isinstance (by rfl) (pv 0) (pe_glob (by rfl) T.g_Unknown rfl)))) (dw_and1 (dt_not (dt_val (de_isXP (v := .ref T.a_Misfit) (cv := .ref T.a_Misfit) (isM := isM_Misfit) rfl (T.xc_of_LaidError hin) List.mem_cons_self hz hf (fun _ h => h) (fun n b h1 h2 => T.isi_Misfit n _ b h1 h2) T.n_isinstance (by rfl) (pv 0) (pe_glob (by rfl) T.g_Misfit rfl))))))))
  (ds_one (ds_ret gok0 rfl (de_tup (da_cons (de_strL (by decide +kernel)) (da_cons (de_xfP (T.xf_of_LaidError hin) (T.no_of_LaidError_kind hin) rfl List.mem_cons_self hz hf (pv 0)) da_nil)))))
  ds_nil)
  (ds_cons (ds_if gok0 (PW.pt (dw_and (dt_val (de_isXP (v := .ref T.a_Unknown) (cv := .ref T.a_Unknown) (isM := isM_Unknown) rfl (T.xc_of_LaidError hin) List.mem_cons_self hz hf (fun _ h => h) (fun n b h1 h2 => T.isi_Unknown n _ b h1 h2) T.n_isinstance (by rfl) (pv 0) (pe_glob (by rfl) T.g_Unknown rfl))) (dw_and (dt_not (dt_val (de_isXP (v := .ref T.a_Taken) (cv := .ref T.a_Taken) (isM := isM_Taken) rfl (T.xc_of_LaidError hin) List.mem_cons_self hz hf (fun _ h => h) (fun n b h1 h2 => T.isi_Taken n _ b h1 h2) T.n_isinstance (by rfl) (pv 0) (pe_glob (by rfl) T.g_Taken rfl)))) (dw_and1 (dt_not (dt_val (de_isXP (v := .ref T.a_Misfit) (cv := .ref T.a_Misfit) (isM := isM_Misfit) rfl (T.xc_of_LaidError hin) List.mem_cons_self hz hf (fun _ h => h) (fun n b h1 h2 => T.isi_Misfit n _ b h1 h2) T.n_isinstance (by rfl) (pv 0) (pe_glob (by rfl) T.g_Misfit rfl))))))))
  (ds_one (ds_ret gok0 rfl (de_tup (da_cons (de_strL (by decide +kernel)) (da_cons (de_xfP (T.xf_of_LaidError hin) (T.no_of_LaidError_kind hin) rfl List.mem_cons_self hz hf (pv 0)) da_nil)))))
  ds_nil)
  (ds_cons (ds_if gok0 (PW.pt (dw_and (dt_val (de_isXP (v := .ref T.a_Misfit) (cv := .ref T.a_Misfit) (isM := isM_Misfit) rfl (T.xc_of_LaidError hin) List.mem_cons_self hz hf (fun _ h => h) (fun n b h1 h2 => T.isi_Misfit n _ b h1 h2) T.n_isinstance (by rfl) (pv 0) (pe_glob (by rfl) T.g_Misfit rfl))) (dw_and (dt_not (dt_val (de_isXP (v := .ref T.a_Taken) (cv := .ref T.a_Taken) (isM := isM_Taken) rfl (T.xc_of_LaidError hin) List.mem_cons_self hz hf (fun _ h => h) (fun n b h1 h2 => T.isi_Taken n _ b h1 h2) T.n_isinstance (by rfl) (pv 0) (pe_glob (by rfl) T.g_Taken rfl)))) (dw_and1 (dt_not (dt_val (de_isXP (v := .ref T.a_Unknown) (cv := .ref T.a_Unknown) (isM := isM_Unknown) rfl (T.xc_of_LaidError hin) List.mem_cons_self hz hf (fun _ h => h) (fun n b h1 h2 => T.isi_Unknown n _ b h1 h2) T.n_isinstance (by rfl) (pv 0) (pe_glob (by rfl) T.g_Unknown rfl))))))))
  (ds_one (ds_ret gok0 rfl (de_tup (da_cons (de_strL (by decide +kernel)) (da_cons (de_xfP (T.xf_of_LaidError hin) (T.no_of_LaidError_kind hin) rfl List.mem_cons_self hz hf (pv 0)) da_nil)))))
  ds_nil)
  (ds_one (ds_ret gok0 rfl (de_tup (da_cons (de_strL (by decide +kernel)) (da_cons (de_strL (by decide +kernel)) da_nil)))))))))
theorem ok_l_due (T : Txt w K mg) : FnOk P w K mg base (L2N.CX P w) 2 T.f_l_due T.fd_l_due ["_law_top", "_law_rows"] (spD K T.cm [false, false] false F_l_due)   := dok (G' := []) (k := 1) T.F_l_due sc_l_due rfl (by decide) fun cdv A outer s H E hr =>
  (ds_cons (ds_setO 2 gok0 (show 2 < 5 by decide) sc_l_due.nd rfl (by first | exact Or.inl rfl | exact Or.inr rfl) de_dnew)
  (ds_cons (ds_for gok0 (passes_of rfl) rfl (di_list (de_var 1 (pv 1) rfl)) (dg_name 3 sc_l_due.nd rfl (by first | exact Or.inl rfl | exact Or.inr rfl))
  (ds_cons (ds_if gok0 (dt_cmp (op_inK (hu65 hr)) os_inK (db_of (de_ix (db_var 3 (pv 3) (.inl (by rfl))) (db_of de_int) (fun _ _ => rfl))) (db_var 2 (pv 2) (.inr (.inl (by trivial)))) (by rfl))
  (ds_one (ds_ret gok0 rfl (de_tup (da_cons (de_strL (by decide +kernel)) (da_cons (de_ix (db_var 3 (pv 3) (.inl (by rfl))) (db_of de_int) (fun _ _ => rfl)) da_nil)))))
  ds_nil)
  (ds_one (ds_put 2 gok0 (hu65 hr) rfl (pv 2) (de_ix (db_var 3 (pv 3) (.inl (by rfl))) (db_of de_int) (fun _ _ => rfl)) (de_ix (db_var 3 (pv 3) (.inl (by rfl))) (db_of de_int) (fun _ _ => rfl))))))
  (ds_cons (ds_if gok0 (dt_cmp (op_ninK (hu65 hr)) os_inK (db_var 0 (pv 0) (.inl (by rfl))) (db_var 2 (pv 2) (.inr (.inl (by trivial)))) (by rfl))
  (ds_one (ds_ret gok0 rfl (de_tup (da_cons (de_strL (by decide +kernel)) (da_cons (de_var 0 (pv 0) rfl) da_nil)))))
  ds_nil)
  (ds_cons (ds_if gok0 (dt_cmp (or_ne hr.units) os_ne (db_of (de_getZ (hu65 hr) (db_var 2 (pv 2) (.inr (.inl (by trivial)))) (db_var 0 (pv 0) (.inl (by rfl))) (fun _ _ => rfl))) (db_of (de_strL (by decide +kernel))) (nomark _))
  (ds_one (ds_ret gok0 rfl (de_tup (da_cons (de_strL (by decide +kernel)) (da_cons (de_var 0 (pv 0) rfl) da_nil)))))
  ds_nil)
  (ds_cons (ds_for gok0 (passes_of rfl) rfl (di_list (de_var 1 (pv 1) rfl)) (dg_name 3 sc_l_due.nd rfl (by first | exact Or.inl rfl | exact Or.inr rfl))
  (ds_one (ds_for gok0 (passes_of rfl) rfl (di_tup (de_ix (db_var 3 (pv 3) (.inl (by rfl))) (db_of de_int) (fun _ _ => rfl))) (dg_name 4 sc_l_due.nd rfl (by first | exact Or.inl rfl | exact Or.inr rfl))
  (ds_cons (ds_if gok0 (dt_cmp (op_ninK (hu65 hr)) os_inK (db_var 4 (pv 4) (.inl (by rfl))) (db_var 2 (pv 2) (.inr (.inl (by trivial)))) (by rfl))
  (ds_one (ds_ret gok0 rfl (de_tup (da_cons (de_strL (by decide +kernel)) (da_cons (de_var 4 (pv 4) rfl) da_nil)))))
  ds_nil)
  (ds_one (ds_if gok0 (dt_not (dt_val (de_callV (ok_l_may T) (L2N.takes_of rfl rfl rfl rfl) (hr.mono (by decide)) (by rfl) T.g_l_may T.F_l_may.kp T.b_l_may (dm_val (de_ix (db_var 3 (pv 3) (.inl (by rfl))) (db_of de_int) (fun _ _ => rfl)) (dm_val (de_getZ (hu65 hr) (db_var 2 (pv 2) (.inr (.inl (by trivial)))) (db_var 4 (pv 4) (.inl (by rfl))) (fun _ _ => rfl)) dm_nil)))))
  (ds_one (ds_ret gok0 rfl (de_tup (da_cons (de_strL (by decide +kernel)) (da_cons (de_var 4 (pv 4) rfl) da_nil)))))
  ds_nil))))))
  (ds_one (ds_ret gok0 rfl (de_tup (da_cons (de_strL (by decide +kernel)) (da_cons (de_strL (by decide +kernel)) da_nil))))))))))
theorem ok_l_tells (T : Txt w K mg) : FnOk P w K mg base (L2N.CX P w) 6 T.f_l_tells T.fd_l_tells ["_law_grammar_here", "_law_top", "_law_rows", "_law_stranger"] (spD K T.cm [false, false, false, false] false F_l_tells)   := dok (G' := []) (k := 5) T.F_l_tells sc_l_tells rfl (by decide) fun cdv A outer s H E hr =>
  (ds_cons (ds_setLc 4 gok0 (by decide) rfl sc_l_tells.nd rfl rfl (sw_true rfl rfl rfl (by decide +kernel)) (own := [("_law_row_here", 5)]) (di_list (de_var 2 (pv 2) rfl)) (blkOk_by (own := [("_law_row_here", 5)]) (N := ["_law_grammar_here", "_law_top", "_law_rows", "_law_stranger", "_law_kinds_here", "_law_row_here", "_law_pairs", "_law_one", "_law_two", "_law_e"]) (sc := defScope s_l_tells) (by decide +kernel)) (fun _ _ _ _ _ => (dg_name 5 sc_l_tells.nd rfl (by first | exact Or.inl rfl | exact Or.inr rfl))) (fun _ _ _ _ _ => dt_nil) (fun _ _ _ _ _ => (de_ix (db_var 5 (pv 5) (.inl (by rfl))) (db_of de_int) (fun _ _ => rfl))))
  (ds_pub 4 (ds_cons (ds_if gok0 (PW.pt (dw_or (dt_not (dt_val (de_callV (ok_l_same (n := 4) T) (L2N.takes_of rfl rfl rfl rfl) (hr.mono (by decide)) (by rfl) T.g_l_same T.F_l_same.kp T.b_l_same (dm_val (de_fld T.cm_Grammar T.cl_Grammar T.na_Grammar_root (db_var 0 (pv 0) (.inl (by rfl)))) (dm_val (de_var 1 (pv 1) rfl) dm_nil))))) (dw_or (dt_cmp (or_ne hr.units) os_ne (db_of (de_bltn (call_lenO T.m_Grammar___len__ (ok_Grammar_len T) (hr.mono (by decide)) T.b_Grammar_len) (cs_lenO T.cm_Grammar) (by rfl) T.n_len (by decide +kernel) (dm_bor (db_var 0 (pv 0) (.inl (by rfl))) dm_nil))) (db_of (de_bltn call_len cs_len (by rfl) T.n_len (by decide +kernel) (dm_bor (db_var 2 (pv 2) (.inl (by rfl))) dm_nil))) (nomark _)) (dw_or1 (dt_not (dt_val (de_callV (ok_l_same (n := 4) T) (L2N.takes_of rfl rfl rfl rfl) (hr.mono (by decide)) (by rfl) T.g_l_same T.F_l_same.kp T.b_l_same (dm_val (de_pub (de_type (call_listO T.m_Grammar___iter__ (ok_it_Grammar T) T.m_Grammar___len__ (ok_ln_Grammar T) T.b_Grammar_len (hr.mono (by decide)) rfl) (cs_listO T.cm_Grammar) (by rfl) T.n_list (by decide +kernel) (dm_bor (db_var 0 (pv 0) (.inl (by rfl))) dm_nil))) (dm_val (de_var 4 (pv 4) rfl) dm_nil)))))))))
  (ds_one (ds_ret gok0 rfl de_bl))
  ds_nil)
  (ds_cons (ds_setO 6 gok0 (show 6 < 10 by decide) sc_l_tells.nd rfl (by first | exact Or.inl rfl | exact Or.inr rfl) (de_lst da_nil))
  (ds_cons (ds_for gok0 (passes_of rfl) rfl (di_own T.cm_Grammar T.m_Grammar___iter__ (ok_it_Grammar T) (hr.mono (by decide)) (db_var 0 (pv 0) (.inl (by rfl)))) (dg_name 7 sc_l_tells.nd rfl (by first | exact Or.inl rfl | exact Or.inr rfl))
  (ds_one (ds_for gok0 (passes_of rfl) rfl (di_own T.cm_Grammar T.m_Grammar___iter__ (ok_it_Grammar T) (hr.mono (by decide)) (db_var 0 (pv 0) (.inl (by rfl)))) (dg_name 8 sc_l_tells.nd rfl (by first | exact Or.inl rfl | exact Or.inr rfl))
  (ds_one (ds_app 6 gok0 rfl (pv 6) (de_tup (da_cons (de_var 7 (pv 7) rfl) (da_cons (de_var 8 (pv 8) rfl) da_nil))))))))
  (ds_cons (ds_if gok0 (PW.pt (dw_or (dt_cmp (or_ne hr.units) os_ne (db_of (de_bltn call_len cs_len (by rfl) T.n_len (by decide +kernel) (dm_bor (db_var 6 (pv 6) (.inr (.inl (by trivial)))) dm_nil))) (db_of (de_op or_mulX os_mulX (db_of (de_bltn call_len cs_len (by rfl) T.n_len (by decide +kernel) (dm_bor (db_var 4 (pv 4) (.inl (by rfl))) dm_nil))) (db_of (de_bltn call_len cs_len (by rfl) T.n_len (by decide +kernel) (dm_bor (db_var 4 (pv 4) (.inl (by rfl))) dm_nil))))) (nomark _)) (dw_or1 (dt_cmp (or_ne hr.units) os_ne (db_of (de_ix (db_var 6 (pv 6) (.inr (.inl (by trivial)))) (db_of (de_neg de_int)) (fun _ _ => rfl))) (db_of (de_tup (da_cons (de_ix (db_var 4 (pv 4) (.inl (by rfl))) (db_of (de_neg de_int)) (fun _ _ => rfl)) (da_cons (de_ix (db_var 4 (pv 4) (.inl (by rfl))) (db_of (de_neg de_int)) (fun _ _ => rfl)) da_nil)))) (nomark _)))))
  (ds_one (ds_ret gok0 rfl de_bl))
  ds_nil)
  (ds_cons (ds_for gok0 (passes_of rfl) rfl (di_list (de_var 2 (pv 2) rfl)) (dg_name 5 sc_l_tells.nd rfl (by first | exact Or.inl rfl | exact Or.inr rfl))
  (ds_one (ds_if gok0 (PW.pt (dw_or (dt_cmp (op_ninO T.m_Grammar___contains__ (ok_Grammar_contains T) (hr.mono (by decide)) T.b_Grammar_contains) (os_inO (m2 := true) T.cm_Grammar) (db_of (de_ix (db_var 5 (pv 5) (.inl (by rfl))) (db_of de_int) (fun _ _ => rfl))) (db_var 0 (pv 0) (.inl (by rfl))) (by rfl)) (dw_or1 (dt_not (dt_val (de_callV (ok_l_same (n := 4) T) (L2N.takes_of rfl rfl rfl rfl) (hr.mono (by decide)) (by rfl) T.g_l_same T.F_l_same.kp T.b_l_same (dm_val (de_getO T.cm_Grammar T.m_Grammar___getitem__ (fnIn_of T.F_Grammar_getitem) (ok_Grammar_getitem T) (L2N.takes_of rfl rfl rfl rfl) (hr.mono (by decide)) T.b_Grammar_getitem (db_var 0 (pv 0) (.inl (by rfl))) (de_ix (db_var 5 (pv 5) (.inl (by rfl))) (db_of de_int) (fun _ _ => rfl))) (dm_val (de_tup (da_cons (de_ix (db_var 5 (pv 5) (.inl (by rfl))) (db_of de_int) (fun _ _ => rfl)) (da_cons (de_ix (db_var 5 (pv 5) (.inl (by rfl))) (db_of de_int) (fun _ _ => rfl)) da_nil))) dm_nil))))))))
  (ds_one (ds_ret gok0 rfl de_bl))
  ds_nil)))
  (ds_cons (ds_if gok0 (dt_cmp (op_inO T.m_Grammar___contains__ (ok_Grammar_contains T) (hr.mono (by decide)) T.b_Grammar_contains) (os_inO (m2 := true) T.cm_Grammar) (db_var 3 (pv 3) (.inl (by rfl))) (db_var 0 (pv 0) (.inl (by rfl))) (by rfl))
  (ds_one (ds_ret gok0 rfl de_bl))
  ds_nil)
  (ds_cons (ds_try (isM := isM_LaidError) (Gs := [.v, .v, .v, .v, .v, .v, .o, .v, .v, .v]) gok0 rfl rfl sc_l_tells.nd rfl rfl ⟨by rfl, by decide, .inl T.g_LaidError⟩ (L2N.takes_of rfl rfl rfl rfl) (by decide) T.exm_LaidError (fun W pn xe tk po => (ds_one (ds_app 6 gokT rfl (pv 6) (de_getO T.cm_Grammar T.m_Grammar___getitem__ (fnIn_of T.F_Grammar_getitem) (ok_Grammar_getitem T) tk (hr.mono (by decide)) T.b_Grammar_getitem (db_var 0 (pv 0) (.inl (by rfl))) (de_var 3 (pv 3) rfl)))))
  (fun a C dd oe pn hin hz hf => (ds_one (ds_ret gokC rfl (de_callHV (okH_l_same (n := 4) T) L2N.takes0 (roomH_mark hr (by decide)) (hot_suite hz hf) (by rfl) T.g_l_same T.F_l_same.kp T.b_l_same (dm_val (de_callX (okX_l_error T) L2N.takes0 (roomH_mark hr (by decide)) rfl List.mem_cons_self hin hz hf (by rfl) T.g_l_error T.F_l_error.kp T.b_l_error (pv 9)) (dm_val (de_tup (da_cons (de_strL (by decide +kernel)) (da_cons (de_var 3 (pv 3) rfl) da_nil))) dm_nil)))))) rfl rfl)
  (ds_one (ds_ret gok0 rfl de_bl))))))))) (.inl rfl)))
theorem ok_l_asked (T : Txt w K mg) : FnOk P w K mg base (L2N.CX P w) 7 T.f_l_asked T.fd_l_asked ["_law_top", "_law_rows", "_law_stranger"] (spD K T.cm [false, false, false] false F_l_asked)   := dok (G' := []) (k := 6) T.F_l_asked sc_l_asked rfl (by decide) fun cdv A outer s H E hr =>
  (ds_cons (ds_setO 3 gok0 (show 3 < 6 by decide) sc_l_asked.nd rfl (by first | exact Or.inl rfl | exact Or.inr rfl) (de_type call_list_of cs_list (by rfl) T.n_list (by decide +kernel) (dm_bor (db_var 1 (pv 1) (.inl (by rfl))) dm_nil)))
  (ds_cons (ds_try (isM := isM_LaidError) (Gs := [.v, .v, .v, .o, .v, .v]) gok0 rfl rfl sc_l_asked.nd rfl rfl ⟨by rfl, by decide, .inl T.g_LaidError⟩ (L2N.takes_of rfl rfl rfl rfl) (by decide) T.exm_LaidError (fun W pn xe tk po => (ds_one (ds_set 4 gokT sc_l_asked.nd rfl (by first | exact Or.inl rfl | exact Or.inr rfl) (de_pub (de_make T.mk_Grammar (ok_Grammar_init T) tk (hr.mono (by decide)) (by rfl) T.g_Grammar T.b_Grammar_init (dm_val (de_var 0 (pv 0) rfl) (dm_bor (db_var 3 (pv 3) (.inr (.inl (by trivial)))) dm_nil)))))))
  (fun a C dd oe pn hin hz hf => (ds_one (ds_ret gokC rfl (de_and (de_callHV (okH_l_same (n := 4) T) L2N.takes0 (roomH_mark hr (by decide)) (hot_suite hz hf) (by rfl) T.g_l_same T.F_l_same.kp T.b_l_same (dm_val (de_callX (okX_l_error T) L2N.takes0 (roomH_mark hr (by decide)) rfl List.mem_cons_self hin hz hf (by rfl) T.g_l_error T.F_l_error.kp T.b_l_error (pv 5)) (dm_val (de_callHV (okH_l_due T) L2N.takes0 (roomH_mark hr (by decide)) (hot_suite hz hf) (by rfl) T.g_l_due T.F_l_due.kp T.b_l_due (dm_val (de_var 0 (pv 0) rfl) (dm_val (de_var 1 (pv 1) rfl) dm_nil))) dm_nil))) (de_one (de_cmp (or_eq hr.units) os_eq (db_var 3 (pv 3) (.inr (.inl (by trivial)))) (db_var 1 (pv 1) (.inl (by rfl))) (nomark _))))))) rfl rfl)
  (ds_cons (ds_if gok0 (PW.pt (dw_or (dt_cmp (or_ne hr.units) os_ne (db_of (de_callV (ok_l_due T) (L2N.takes_of rfl rfl rfl rfl) (hr.mono (by decide)) (by rfl) T.g_l_due T.F_l_due.kp T.b_l_due (dm_val (de_var 0 (pv 0) rfl) (dm_val (de_var 1 (pv 1) rfl) dm_nil)))) (db_of (de_tup (da_cons (de_strL (by decide +kernel)) (da_cons (de_strL (by decide +kernel)) da_nil)))) (nomark _)) (dw_or (dt_cmp (or_ne hr.units) os_ne (db_var 3 (pv 3) (.inr (.inl (by trivial)))) (db_var 1 (pv 1) (.inl (by rfl))) (nomark _)) (dw_or1 (dt_not (dt_val (de_callV (ok_l_tells T) (L2N.takes_of rfl rfl rfl rfl) (hr.mono (by decide)) (by rfl) T.g_l_tells T.F_l_tells.kp T.b_l_tells (dm_val (de_var 4 (pv 4) rfl) (dm_val (de_var 0 (pv 0) rfl) (dm_val (de_var 1 (pv 1) rfl) (dm_val (de_var 2 (pv 2) rfl) dm_nil)))))))))))
  (ds_one (ds_ret gok0 rfl de_bl))
  ds_nil)
  (ds_cons (ds_sto 3 gok0 rfl (pv 3) de_int (de_tup (da_cons (de_var 2 (pv 2) rfl) (da_cons (de_strL (by decide +kernel)) (da_cons (de_tup da_nil) da_nil)))))
  (ds_cons (ds_app 3 gok0 rfl (pv 3) (de_tup (da_cons (de_ix (db_of (de_ix (db_var 1 (pv 1) (.inl (by rfl))) (db_of de_int) (fun _ _ => rfl))) (db_of de_int) (fun _ _ => rfl)) (da_cons (de_strL (by decide +kernel)) (da_cons (de_tup (da_cons (de_var 2 (pv 2) rfl) da_nil)) da_nil)))))
  (ds_one (ds_ret gok0 rfl (de_callV (ok_l_tells T) (L2N.takes_of rfl rfl rfl rfl) (hr.mono (by decide)) (by rfl) T.g_l_tells T.F_l_tells.kp T.b_l_tells (dm_val (de_var 4 (pv 4) rfl) (dm_val (de_var 0 (pv 0) rfl) (dm_val (de_var 1 (pv 1) rfl) (dm_val (de_var 2 (pv 2) rfl) dm_nil))))))))))))
theorem ok_l_put (T : Txt w K mg) : FnOk P w K mg base (L2N.CX P w) 1 T.f_l_put T.fd_l_put ["_law_inner", "_law_at", "_law_kind"] (spD K T.cm [false, false, false] false F_l_put)   := dok (G' := []) (k := 0) T.F_l_put sc_l_put rfl (by decide) fun cdv A outer s H E hr =>
  (ds_cons (ds_if gok0 (dt_cmp (or_in (hu65 hr)) os_in (db_var 2 (pv 2) (.inl (by rfl))) (db_var 0 (pv 0) (.inl (by rfl))) (by rfl))
  (ds_one (ds_ret gok0 rfl (de_var 0 (pv 0) rfl)))
  ds_nil)
  (ds_cons (ds_set 3 gok0 sc_l_put.nd rfl (by first | exact Or.inl rfl | exact Or.inr rfl) (de_op op_mod os_mod (db_of (de_type cr_int cs_int (by rfl) T.n_int (by decide +kernel) (dm_bor (db_var 1 (pv 1) (.inl (by rfl))) dm_nil))) (db_of (de_op or_add os_add (db_of (de_bltn call_len cs_len (by rfl) T.n_len (by decide +kernel) (dm_bor (db_var 0 (pv 0) (.inl (by rfl))) dm_nil))) (db_of de_int)))))
  (ds_one (ds_ret gok0 rfl (de_op or_add os_add (db_of (de_op or_add os_add (db_of (de_sl (db_var 0 (pv 0) (.inl (by rfl))) dp_none (dp_some (de_var 3 (pv 3) rfl)))) (db_of (de_tup (da_cons (de_var 2 (pv 2) rfl) da_nil))))) (db_of (de_sl (db_var 0 (pv 0) (.inl (by rfl))) (dp_some (de_var 3 (pv 3) rfl)) dp_none)))))))
theorem ok_l_changed (T : Txt w K mg) : FnOk P w K mg base (L2N.CX P w) 2 T.f_l_changed T.fd_l_changed ["_law_top", "_law_rows", "_law_changes", "_law_stranger"] (spD K T.cm [false, false, false, false] false F_l_changed)   := dok (G' := []) (k := 1) T.F_l_changed sc_l_changed rfl (by decide) fun cdv A outer s H E hr =>
  (ds_cons (ds_setO 1 gok0 (show 1 < 13 by decide) sc_l_changed.nd rfl (by first | exact Or.inl rfl | exact Or.inr rfl) (de_type call_list_of cs_list (by rfl) T.n_list (by decide +kernel) (dm_bor (db_var 1 (pv 1) (.inl (by rfl))) dm_nil)))
  (ds_cons (ds_set 4 gok0 sc_l_changed.nd rfl (by first | exact Or.inl rfl | exact Or.inr rfl) (de_pub (de_lst (da_cons (de_strL (by decide +kernel)) (da_cons (de_strL (by decide +kernel)) (da_cons (de_strL (by decide +kernel)) (da_cons (de_strL (by decide +kernel)) (da_cons (de_strL (by decide +kernel)) (da_cons (de_strL (by decide +kernel)) (da_cons (de_strL (by decide +kernel)) da_nil))))))))))
  (ds_cons (ds_for gok0 (passes_of rfl) rfl (di_rng1 T.n_range (by rfl) (da_cons (de_ix (db_var 2 (pv 2) (.inl (by rfl))) (db_of de_int) (fun _ _ => rfl)) da_nil)) (dg_name 5 sc_l_changed.nd rfl (by first | exact Or.inl rfl | exact Or.inr rfl))
  (ds_cons (ds_par 6 7 gok0 rfl sc_l_changed.nd rfl rfl (by decide) rfl rfl (de_ix (db_var 2 (pv 2) (.inl (by rfl))) (db_of (de_op or_add os_add (db_of (de_op or_mulX os_mulX (db_of de_int) (db_var 5 (pv 5) (.inl (by rfl))))) (db_of de_int))) (fun _ _ => rfl)) (de_ix (db_var 2 (pv 2) (.inl (by rfl))) (db_of (de_op or_add os_add (db_of (de_op or_mulX os_mulX (db_of de_int) (db_var 5 (pv 5) (.inl (by rfl))))) (db_of de_int))) (fun _ _ => rfl)) (by rfl))
  (ds_cons (ds_set 8 gok0 sc_l_changed.nd rfl (by first | exact Or.inl rfl | exact Or.inr rfl) (de_op op_mod os_mod (db_of (de_type cr_int cs_int (by rfl) T.n_int (by decide +kernel) (dm_bor (db_of (de_ix (db_var 2 (pv 2) (.inl (by rfl))) (db_of (de_op or_add os_add (db_of (de_op or_mulX os_mulX (db_of de_int) (db_var 5 (pv 5) (.inl (by rfl))))) (db_of de_int))) (fun _ _ => rfl))) dm_nil))) (db_of (de_bltn call_len cs_len (by rfl) T.n_len (by decide +kernel) (dm_bor (db_var 1 (pv 1) (.inr (.inl (by trivial)))) dm_nil)))))
  (ds_cons (ds_set 9 gok0 sc_l_changed.nd rfl (by first | exact Or.inl rfl | exact Or.inr rfl) (de_op op_mod os_mod (db_of (de_type cr_int cs_int (by rfl) T.n_int (by decide +kernel) (dm_bor (db_of (de_ix (db_var 2 (pv 2) (.inl (by rfl))) (db_of (de_op or_add os_add (db_of (de_op or_mulX os_mulX (db_of de_int) (db_var 5 (pv 5) (.inl (by rfl))))) (db_of de_int))) (fun _ _ => rfl))) dm_nil))) (db_of (de_bltn call_len cs_len (by rfl) T.n_len (by decide +kernel) (dm_bor (db_var 1 (pv 1) (.inr (.inl (by trivial)))) dm_nil)))))
  (ds_cons (ds_asg gok0 (de_ix (db_var 1 (pv 1) (.inr (.inl (by trivial)))) (db_var 8 (pv 8) (.inl (by rfl))) (fun _ _ => rfl)) (dg_tup rfl (dg_cons (dg_name 10 sc_l_changed.nd rfl (by first | exact Or.inl rfl | exact Or.inr rfl)) (dg_cons (dg_name 11 sc_l_changed.nd rfl (by first | exact Or.inl rfl | exact Or.inr rfl)) (dg_cons (dg_name 12 sc_l_changed.nd rfl (by first | exact Or.inl rfl | exact Or.inr rfl)) dg_nil)))))
  (ds_one (ds_if gok0 (dt_cmp (or_eq hr.units) os_eq (db_var 6 (pv 6) (.inl (by rfl))) (db_of de_int) (nomark _))
  (ds_one (ds_sto 1 gok0 rfl (pv 1) (de_var 8 (pv 8) rfl) (de_tup (da_cons (de_ix (db_of (de_ix (db_var 1 (pv 1) (.inr (.inl (by trivial)))) (db_var 9 (pv 9) (.inl (by rfl))) (fun _ _ => rfl))) (db_of de_int) (fun _ _ => rfl)) (da_cons (de_var 11 (pv 11) rfl) (da_cons (de_var 12 (pv 12) rfl) da_nil))))))
  (ds_one (ds_if gok0 (dt_cmp (or_eq hr.units) os_eq (db_var 6 (pv 6) (.inl (by rfl))) (db_of de_int) (nomark _))
  (ds_one (ds_sto 1 gok0 rfl (pv 1) (de_var 8 (pv 8) rfl) (de_tup (da_cons (de_var 10 (pv 10) rfl) (da_cons (de_var 11 (pv 11) rfl) (da_cons (de_callV (ok_l_put T) (L2N.takes_of rfl rfl rfl rfl) (hr.mono (by decide)) (by rfl) T.g_l_put T.F_l_put.kp T.b_l_put (dm_val (de_var 12 (pv 12) rfl) (dm_val (de_var 7 (pv 7) rfl) (dm_val (de_var 3 (pv 3) rfl) dm_nil)))) da_nil))))))
  (ds_one (ds_if gok0 (dt_cmp (or_eq hr.units) os_eq (db_var 6 (pv 6) (.inl (by rfl))) (db_of de_int) (nomark _))
  (ds_one (ds_sto 1 gok0 rfl (pv 1) (de_var 8 (pv 8) rfl) (de_tup (da_cons (de_var 10 (pv 10) rfl) (da_cons (de_var 11 (pv 11) rfl) (da_cons (de_callV (ok_l_put T) (L2N.takes_of rfl rfl rfl rfl) (hr.mono (by decide)) (by rfl) T.g_l_put T.F_l_put.kp T.b_l_put (dm_val (de_var 12 (pv 12) rfl) (dm_val (de_var 7 (pv 7) rfl) (dm_val (de_ix (db_of (de_ix (db_var 1 (pv 1) (.inr (.inl (by trivial)))) (db_var 9 (pv 9) (.inl (by rfl))) (fun _ _ => rfl))) (db_of de_int) (fun _ _ => rfl)) dm_nil)))) da_nil))))))
  (ds_one (ds_if gok0 (dt_cmp (or_eq hr.units) os_eq (db_var 6 (pv 6) (.inl (by rfl))) (db_of de_int) (nomark _))
  (ds_one (ds_sto 1 gok0 rfl (pv 1) (de_var 8 (pv 8) rfl) (de_tup (da_cons (de_var 10 (pv 10) rfl) (da_cons (de_ix (db_var 4 (pv 4) (.inl (by rfl))) (db_of (de_op op_mod os_mod (db_of (de_type cr_int cs_int (by rfl) T.n_int (by decide +kernel) (dm_bor (db_var 7 (pv 7) (.inl (by rfl))) dm_nil))) (db_of de_int))) (fun _ _ => rfl)) (da_cons (de_var 12 (pv 12) rfl) da_nil))))))
  (ds_one (ds_if gok0 (dt_cmp (or_eq hr.units) os_eq (db_var 6 (pv 6) (.inl (by rfl))) (db_of de_int) (nomark _))
  (ds_one (ds_set 0 gok0 sc_l_changed.nd rfl (by first | exact Or.inl rfl | exact Or.inr rfl) (de_ix (db_own (de_lst (da_cons (de_var 3 (pv 3) rfl) (da_cons (de_ix (db_of (de_ix (db_var 1 (pv 1) (.inr (.inl (by trivial)))) (db_var 9 (pv 9) (.inl (by rfl))) (fun _ _ => rfl))) (db_of de_int) (fun _ _ => rfl)) da_nil)))) (db_of (de_type cr_int cs_int (by rfl) T.n_int (by decide +kernel) (dm_bor (db_of (de_cmp or_gt os_ord (db_var 7 (pv 7) (.inl (by rfl))) (db_of de_int) (nomark _))) dm_nil))) (fun _ _ => rfl))))
  (ds_cons (ds_sto 1 gok0 rfl (pv 1) (de_var 8 (pv 8) rfl) (de_ix (db_var 1 (pv 1) (.inr (.inl (by trivial)))) (db_var 9 (pv 9) (.inl (by rfl))) (fun _ _ => rfl)))
  (ds_one (ds_sto 1 gok0 rfl (pv 1) (de_var 9 (pv 9) rfl) (de_tup (da_cons (de_var 10 (pv 10) rfl) (da_cons (de_var 11 (pv 11) rfl) (da_cons (de_var 12 (pv 12) rfl) da_nil))))))))))))))))))))))
  (ds_pub 1 (ds_one (ds_ret gok0 rfl (de_tup (da_cons (de_var 0 (pv 0) rfl) (da_cons (de_var 1 (pv 1) rfl) da_nil))))) (.inl rfl)))))
theorem ok_law (T : Txt w K mg) : FnOk P w K mg base (L2N.CX P w) 8 T.f_law T.fd_law ["_law_script"] (spD K T.cm [false] false F_law)   := dok (G' := []) (k := 7) T.F_law sc_law rfl (by decide) fun cdv A outer s H E hr =>
  (ds_cons (ds_set 1 gok0 sc_law.nd rfl (by first | exact Or.inl rfl | exact Or.inr rfl) (de_callV (ok_l_kinds T) (L2N.takes_of rfl rfl rfl rfl) (hr.mono (by decide)) (by rfl) T.g_l_kinds T.F_l_kinds.kp T.b_l_kinds (dm_val (de_callV (ok_l_cell T) (L2N.takes_of rfl rfl rfl rfl) (hr.mono (by decide)) (by rfl) T.g_l_cell T.F_l_cell.kp T.b_l_cell (dm_val (de_var 0 (pv 0) rfl) (dm_val de_int dm_nil))) (dm_val de_int dm_nil))))
  (ds_cons (ds_set 2 gok0 sc_law.nd rfl (by first | exact Or.inl rfl | exact Or.inr rfl) (de_op or_add os_add (db_of de_int) (db_of (de_op op_mod os_mod (db_of (de_type cr_int cs_int (by rfl) T.n_int (by decide +kernel) (dm_bor (db_of (de_callV (ok_l_cell T) (L2N.takes_of rfl rfl rfl rfl) (hr.mono (by decide)) (by rfl) T.g_l_cell T.F_l_cell.kp T.b_l_cell (dm_val (de_var 0 (pv 0) rfl) (dm_val de_int dm_nil)))) dm_nil))) (db_of de_int)))))
  (ds_cons (ds_asg gok0 (de_callV (ok_l_grammar T) (L2N.takes_of rfl rfl rfl rfl) (hr.mono (by decide)) (by rfl) T.g_l_grammar T.F_l_grammar.kp T.b_l_grammar (dm_val (de_callV (ok_l_cell T) (L2N.takes_of rfl rfl rfl rfl) (hr.mono (by decide)) (by rfl) T.g_l_cell T.F_l_cell.kp T.b_l_cell (dm_val (de_var 0 (pv 0) rfl) (dm_val de_int dm_nil))) (dm_val (de_sl (db_var 1 (pv 1) (.inl (by rfl))) dp_none (dp_some (de_var 2 (pv 2) rfl))) dm_nil))) (dg_tup rfl (dg_cons (dg_name 3 sc_law.nd rfl (by first | exact Or.inl rfl | exact Or.inr rfl)) (dg_cons (dg_name 4 sc_law.nd rfl (by first | exact Or.inl rfl | exact Or.inr rfl)) dg_nil))))
  (ds_cons (ds_set 5 gok0 sc_law.nd rfl (by first | exact Or.inl rfl | exact Or.inr rfl) (de_callV (ok_l_row T) (L2N.takes_of rfl rfl rfl rfl) (hr.mono (by decide)) (by rfl) T.g_l_row T.F_l_row.kp T.b_l_row (dm_val (de_callV (ok_l_cell T) (L2N.takes_of rfl rfl rfl rfl) (hr.mono (by decide)) (by rfl) T.g_l_cell T.F_l_cell.kp T.b_l_cell (dm_val (de_var 0 (pv 0) rfl) (dm_val de_int dm_nil))) (dm_val (de_op or_add os_add (db_own (de_lst (da_cons de_int da_nil))) (db_of (de_op or_mulX os_mulX (db_own (de_lst (da_cons de_int (da_cons de_int (da_cons de_int (da_cons de_int da_nil)))))) (db_of de_int)))) dm_nil))))
  (ds_cons (ds_asg gok0 (de_callV (ok_l_changed T) (L2N.takes_of rfl rfl rfl rfl) (hr.mono (by decide)) (by rfl) T.g_l_changed T.F_l_changed.kp T.b_l_changed (dm_val (de_var 3 (pv 3) rfl) (dm_val (de_var 4 (pv 4) rfl) (dm_val (de_var 5 (pv 5) rfl) (dm_val (de_ix (db_var 1 (pv 1) (.inl (by rfl))) (db_of de_int) (fun _ _ => rfl)) dm_nil))))) (dg_tup rfl (dg_cons (dg_name 6 sc_law.nd rfl (by first | exact Or.inl rfl | exact Or.inr rfl)) (dg_cons (dg_name 7 sc_law.nd rfl (by first | exact Or.inl rfl | exact Or.inr rfl)) dg_nil))))
  (ds_cons (ds_set 8 gok0 sc_law.nd rfl (by first | exact Or.inl rfl | exact Or.inr rfl) (de_pub (de_lst (da_cons (de_tup (da_cons (de_strL (by decide +kernel)) (da_cons (de_strL (by decide +kernel)) (da_cons (de_tup (da_cons (de_strL (by decide +kernel)) (da_cons (de_strL (by decide +kernel)) da_nil))) da_nil)))) (da_cons (de_tup (da_cons (de_strL (by decide +kernel)) (da_cons (de_strL (by decide +kernel)) (da_cons (de_tup (da_cons (de_strL (by decide +kernel)) (da_cons (de_strL (by decide +kernel)) da_nil))) da_nil)))) (da_cons (de_tup (da_cons (de_strL (by decide +kernel)) (da_cons (de_strL (by decide +kernel)) (da_cons (de_tup (da_cons (de_strL (by decide +kernel)) (da_cons (de_strL (by decide +kernel)) (da_cons (de_strL (by decide +kernel)) (da_cons (de_strL (by decide +kernel)) da_nil))))) da_nil)))) (da_cons (de_tup (da_cons (de_strL (by decide +kernel)) (da_cons (de_strL (by decide +kernel)) (da_cons (de_tup (da_cons (de_strL (by decide +kernel)) (da_cons (de_strL (by decide +kernel)) da_nil))) da_nil)))) (da_cons (de_tup (da_cons (de_strL (by decide +kernel)) (da_cons (de_strL (by decide +kernel)) (da_cons (de_tup (da_cons (de_strL (by decide +kernel)) da_nil)) da_nil)))) (da_cons (de_tup (da_cons (de_strL (by decide +kernel)) (da_cons (de_strL (by decide +kernel)) (da_cons (de_tup (da_cons (de_strL (by decide +kernel)) da_nil)) da_nil)))) (da_cons (de_tup (da_cons (de_strL (by decide +kernel)) (da_cons (de_strL (by decide +kernel)) (da_cons (de_tup da_nil) da_nil)))) da_nil))))))))))
  (ds_cons (ds_set 9 gok0 sc_law.nd rfl (by first | exact Or.inl rfl | exact Or.inr rfl) (de_pub (de_make T.mk_Grammar (ok_Grammar_init T) (L2N.takes_of rfl rfl rfl rfl) (hr.mono (by decide)) (by rfl) T.g_Grammar T.b_Grammar_init (dm_val (de_var 3 (pv 3) rfl) (dm_bor (db_own (de_type call_list_of cs_list (by rfl) T.n_list (by decide +kernel) (dm_bor (db_var 4 (pv 4) (.inl (by rfl))) dm_nil))) dm_nil)))))
  (ds_cons (ds_if gok0 (PW.pt (dw_or (dt_not (dt_val (de_callV (ok_l_tells T) (L2N.takes_of rfl rfl rfl rfl) (hr.mono (by decide)) (by rfl) T.g_l_tells T.F_l_tells.kp T.b_l_tells (dm_val (de_var 9 (pv 9) rfl) (dm_val (de_var 3 (pv 3) rfl) (dm_val (de_var 4 (pv 4) rfl) (dm_val (de_ix (db_var 1 (pv 1) (.inl (by rfl))) (db_of de_int) (fun _ _ => rfl)) dm_nil))))))) (dw_or1 (dt_not (dt_val (de_callV (ok_l_asked T) (L2N.takes_of rfl rfl rfl rfl) (hr.mono (by decide)) (by rfl) T.g_l_asked T.F_l_asked.kp T.b_l_asked (dm_val (de_var 6 (pv 6) rfl) (dm_val (de_var 7 (pv 7) rfl) (dm_val (de_ix (db_var 1 (pv 1) (.inl (by rfl))) (db_of de_int) (fun _ _ => rfl)) dm_nil)))))))))
  (ds_one (ds_ret gok0 rfl de_bl))
  ds_nil)
  (ds_cons (ds_if gok0 (PW.pt (dw_or (dt_not (dt_val (de_callV (ok_l_tells T) (L2N.takes_of rfl rfl rfl rfl) (hr.mono (by decide)) (by rfl) T.g_l_tells T.F_l_tells.kp T.b_l_tells (dm_val (de_smeth0 (rm := false) (ok_Grammar_usual T) (L2N.takes_of rfl rfl rfl rfl) (hr.mono (by decide)) (by rfl) T.g_Grammar T.cr_Grammar T.sm_Grammar_usual T.b_Grammar_usual) (dm_val (de_strL (by decide +kernel)) (dm_val (de_var 8 (pv 8) rfl) (dm_val (de_strL (by decide +kernel)) dm_nil))))))) (dw_or1 (dt_not (dt_val (de_callV (ok_l_asked T) (L2N.takes_of rfl rfl rfl rfl) (hr.mono (by decide)) (by rfl) T.g_l_asked T.F_l_asked.kp T.b_l_asked (dm_val (de_var 3 (pv 3) rfl) (dm_val (de_var 4 (pv 4) rfl) (dm_val (de_ix (db_var 1 (pv 1) (.inl (by rfl))) (db_of de_int) (fun _ _ => rfl)) dm_nil)))))))))
  (ds_one (ds_ret gok0 rfl de_bl))
  ds_nil)
  (ds_one (ds_ret gok0 rfl (de_callV (ok_l_tells T) (L2N.takes_of rfl rfl rfl rfl) (hr.mono (by decide)) (by rfl) T.g_l_tells T.F_l_tells.kp T.b_l_tells (dm_val (de_var 9 (pv 9) rfl) (dm_val (de_var 3 (pv 3) rfl) (dm_val (de_var 4 (pv 4) rfl) (dm_val (de_ix (db_var 1 (pv 1) (.inl (by rfl))) (db_of de_int) (fun _ _ => rfl)) dm_nil))))))))))))))))
end
end Lk
end S_P_walk
section S_P_end
set_option Elab.async false
set_option linter.all false
set_option maxRecDepth 100000
set_option maxHeartbeats 4000000
namespace Lk
open PySem L2 Dx PySem.Spec PyProof.Rows
theorem txt_mk {w : World} {K : PySem.W.Frag} {h : Heap} {mg : Str → Option Value} (X : K.In h) (G : h.Ns mainGlobals mg)
    {f0 : Addr} {oc0 kV0 dc0 pm0 cd0 ct0 : Value} {od0 an0 : Option Addr} {sl0 : Array (Option Value)}
    {f1 : Addr} {oc1 kV1 dc1 pm1 cd1 ct1 : Value} {od1 an1 : Option Addr} {sl1 : Array (Option Value)}
    {f2 : Addr} {oc2 kV2 dc2 pm2 cd2 ct2 : Value} {od2 an2 : Option Addr} {sl2 : Array (Option Value)}
    {f3 : Addr} {oc3 kV3 dc3 pm3 cd3 ct3 : Value} {od3 an3 : Option Addr} {sl3 : Array (Option Value)}
    {f4 : Addr} {oc4 kV4 dc4 pm4 cd4 ct4 : Value} {od4 an4 : Option Addr} {sl4 : Array (Option Value)}
    {f5 : Addr} {oc5 kV5 dc5 pm5 cd5 ct5 : Value} {od5 an5 : Option Addr} {sl5 : Array (Option Value)}
    {f6 : Addr} {oc6 kV6 dc6 pm6 cd6 ct6 : Value} {od6 an6 : Option Addr} {sl6 : Array (Option Value)}
    {f7 : Addr} {oc7 kV7 dc7 pm7 cd7 ct7 : Value} {od7 an7 : Option Addr} {sl7 : Array (Option Value)}
    {f8 : Addr} {oc8 kV8 dc8 pm8 cd8 ct8 : Value} {od8 an8 : Option Addr} {sl8 : Array (Option Value)}
    {f9 : Addr} {oc9 kV9 dc9 pm9 cd9 ct9 : Value} {od9 an9 : Option Addr} {sl9 : Array (Option Value)}
    {f10 : Addr} {oc10 kV10 dc10 pm10 cd10 ct10 : Value} {od10 an10 : Option Addr} {sl10 : Array (Option Value)}
    {f11 : Addr} {oc11 kV11 dc11 pm11 cd11 ct11 : Value} {od11 an11 : Option Addr} {sl11 : Array (Option Value)}
    {f12 : Addr} {oc12 kV12 dc12 pm12 cd12 ct12 : Value} {od12 an12 : Option Addr} {sl12 : Array (Option Value)}
    {f13 : Addr} {oc13 kV13 dc13 pm13 cd13 ct13 : Value} {od13 an13 : Option Addr} {sl13 : Array (Option Value)}
    {f14 : Addr} {oc14 kV14 dc14 pm14 cd14 ct14 : Value} {od14 an14 : Option Addr} {sl14 : Array (Option Value)}
    {f15 : Addr} {oc15 kV15 dc15 pm15 cd15 ct15 : Value} {od15 an15 : Option Addr} {sl15 : Array (Option Value)}
    {f16 : Addr} {oc16 kV16 dc16 pm16 cd16 ct16 : Value} {od16 an16 : Option Addr} {sl16 : Array (Option Value)}
    {f17 : Addr} {oc17 kV17 dc17 pm17 cd17 ct17 : Value} {od17 an17 : Option Addr} {sl17 : Array (Option Value)}
    {f18 : Addr} {oc18 kV18 dc18 pm18 cd18 ct18 : Value} {od18 an18 : Option Addr} {sl18 : Array (Option Value)}
    {f19 : Addr} {oc19 kV19 dc19 pm19 cd19 ct19 : Value} {od19 an19 : Option Addr} {sl19 : Array (Option Value)}
    {f20 : Addr} {oc20 kV20 dc20 pm20 cd20 ct20 : Value} {od20 an20 : Option Addr} {sl20 : Array (Option Value)}
    {kA_INNER_ROLES_0 : Addr} {kn_INNER_ROLES_0 : Nat}
    {kh_INNER_ROLES_0 : Int} {kt_INNER_ROLES_0 : Tok}
    {kt_INNER_ROLES_1_0 : Tok}
    {kt_INNER_ROLES_1_1 : Tok}
    {kA_INNER_ROLES_1 : Addr} {kod_INNER_ROLES_1 : Option Addr} {kn_INNER_ROLES_1 : Nat} {ksl_INNER_ROLES_1 : Array (Option Value)}
    {kh_INNER_ROLES_1 : Int} {kt_INNER_ROLES_1 : Tok}
    {kt_INNER_ROLES_2_0 : Tok}
    {kt_INNER_ROLES_2_1 : Tok}
    {kt_INNER_ROLES_2_2 : Tok}
    {kt_INNER_ROLES_2_3 : Tok}
    {kA_INNER_ROLES_2 : Addr} {kod_INNER_ROLES_2 : Option Addr} {kn_INNER_ROLES_2 : Nat} {ksl_INNER_ROLES_2 : Array (Option Value)}
    {kh_INNER_ROLES_2 : Int} {kt_INNER_ROLES_2 : Tok}
    {kt_INNER_ROLES_3_0 : Tok}
    {kt_INNER_ROLES_3_1 : Tok}
    {kA_INNER_ROLES_3 : Addr} {kod_INNER_ROLES_3 : Option Addr} {kn_INNER_ROLES_3 : Nat} {ksl_INNER_ROLES_3 : Array (Option Value)}
    {kh_INNER_ROLES_3 : Int} {kt_INNER_ROLES_3 : Tok}
    {kt_INNER_ROLES_4_0 : Tok}
    {kt_INNER_ROLES_4_1 : Tok}
    {kA_INNER_ROLES_4 : Addr} {kod_INNER_ROLES_4 : Option Addr} {kn_INNER_ROLES_4 : Nat} {ksl_INNER_ROLES_4 : Array (Option Value)}
    {kh_INNER_ROLES_4 : Int} {kt_INNER_ROLES_4 : Tok}
    {kt_INNER_ROLES_5_0 : Tok}
    {kA_INNER_ROLES_5 : Addr} {kod_INNER_ROLES_5 : Option Addr} {kn_INNER_ROLES_5 : Nat} {ksl_INNER_ROLES_5 : Array (Option Value)}
    {kh_INNER_ROLES_5 : Int} {kt_INNER_ROLES_5 : Tok}
    {kt_INNER_ROLES_6_0 : Tok}
    {kA_INNER_ROLES_6 : Addr} {kod_INNER_ROLES_6 : Option Addr} {kn_INNER_ROLES_6 : Nat} {ksl_INNER_ROLES_6 : Array (Option Value)}
    {kh_INNER_ROLES_6 : Int} {kt_INNER_ROLES_6 : Tok}
    {kA_INNER_ROLES_7 : Addr} {kod_INNER_ROLES_7 : Option Addr} {kn_INNER_ROLES_7 : Nat} {ksl_INNER_ROLES_7 : Array (Option Value)}
    {A_LaidError : Addr}
    {A_Misfit : Addr}
    {A_Strange : Addr}
    {A_Taken : Addr}
    {A_Unknown : Addr}
    {nm_Misfit qq_Misfit : Str} {N_Misfit fI_Misfit : Addr} {bs_Misfit bm_Misfit : List Value} {sn_Misfit : List Str} {sb_Misfit : List Value} {ab_Misfit : Bool} {co_Misfit : Option Bool} {dd_Misfit od_Misfit an_Misfit : Option Addr} {m0_Misfit m1_Misfit m2_Misfit m3_Misfit m5_Misfit : Option Value} {oc_Misfit kV_Misfit dc_Misfit pm_Misfit cd_Misfit ct_Misfit : Value} {sl_Misfit : Array (Option Value)}
    {nm_Taken qq_Taken : Str} {N_Taken fI_Taken : Addr} {bs_Taken bm_Taken : List Value} {sn_Taken : List Str} {sb_Taken : List Value} {ab_Taken : Bool} {co_Taken : Option Bool} {dd_Taken od_Taken an_Taken : Option Addr} {m0_Taken m1_Taken m2_Taken m3_Taken m5_Taken : Option Value} {oc_Taken kV_Taken dc_Taken pm_Taken cd_Taken ct_Taken : Value} {sl_Taken : Array (Option Value)}
    {nm_Unknown qq_Unknown : Str} {N_Unknown fI_Unknown : Addr} {bs_Unknown bm_Unknown : List Value} {sn_Unknown : List Str} {sb_Unknown : List Value} {ab_Unknown : Bool} {co_Unknown : Option Bool} {dd_Unknown od_Unknown an_Unknown : Option Addr} {m0_Unknown m1_Unknown m2_Unknown m3_Unknown m5_Unknown : Option Value} {oc_Unknown kV_Unknown dc_Unknown pm_Unknown cd_Unknown ct_Unknown : Value} {sl_Unknown : Array (Option Value)}
    {A_Grammar : Addr}
    {sp_Grammar_usual : Addr} {sr_Grammar_usual : List Value}
    (l0 : K.lookup f0 = some ⟨oc0, od0, .func (PySem.W.fnOf "check_inner" "Grammar.check_inner" (defArgs s_Grammar_check_inner) (defBody s_Grammar_check_inner) (defScope s_Grammar_check_inner) .none kV0 dc0 pm0 an0 cd0 ct0), sl0⟩) (c0 : PySem.W.codeIn K cd0 "Grammar.check_inner" = true) (k0 : PySem.W.keepIn K (.ref f0) = true)
    (l1 : K.lookup f1 = some ⟨oc1, od1, .func (PySem.W.fnOf "__init__" "Grammar.__init__" (defArgs s_Grammar_init) (defBody s_Grammar_init) (defScope s_Grammar_init) .none kV1 dc1 pm1 an1 cd1 ct1), sl1⟩) (c1 : PySem.W.codeIn K cd1 "Grammar.__init__" = true) (k1 : PySem.W.keepIn K (.ref f1) = true)
    (l2 : K.lookup f2 = some ⟨oc2, od2, .func (PySem.W.fnOf "usual" "Grammar.usual" (defArgs s_Grammar_usual) (defBody s_Grammar_usual) (defScope s_Grammar_usual) .none kV2 dc2 pm2 an2 cd2 ct2), sl2⟩) (c2 : PySem.W.codeIn K cd2 "Grammar.usual" = true) (k2 : PySem.W.keepIn K (.ref f2) = true)
    (l3 : K.lookup f3 = some ⟨oc3, od3, .func (PySem.W.fnOf "__getitem__" "Grammar.__getitem__" (defArgs s_Grammar_getitem) (defBody s_Grammar_getitem) (defScope s_Grammar_getitem) .none kV3 dc3 pm3 an3 cd3 ct3), sl3⟩) (c3 : PySem.W.codeIn K cd3 "Grammar.__getitem__" = true) (k3 : PySem.W.keepIn K (.ref f3) = true)
    (l4 : K.lookup f4 = some ⟨oc4, od4, .func (PySem.W.fnOf "__contains__" "Grammar.__contains__" (defArgs s_Grammar_contains) (defBody s_Grammar_contains) (defScope s_Grammar_contains) .none kV4 dc4 pm4 an4 cd4 ct4), sl4⟩) (c4 : PySem.W.codeIn K cd4 "Grammar.__contains__" = true) (k4 : PySem.W.keepIn K (.ref f4) = true)
    (l5 : K.lookup f5 = some ⟨oc5, od5, .func (PySem.W.fnOf "__len__" "Grammar.__len__" (defArgs s_Grammar_len) (defBody s_Grammar_len) (defScope s_Grammar_len) .none kV5 dc5 pm5 an5 cd5 ct5), sl5⟩) (c5 : PySem.W.codeIn K cd5 "Grammar.__len__" = true) (k5 : PySem.W.keepIn K (.ref f5) = true)
    (a6 : PySem.W.nsIn K mainGlobals "_law_cell" = some (some (.ref f6)))
    (l6 : K.lookup f6 = some ⟨oc6, od6, .func (PySem.W.fnOf "_law_cell" "_law_cell" (defArgs s_l_cell) (defBody s_l_cell) (defScope s_l_cell) .none kV6 dc6 pm6 an6 cd6 ct6), sl6⟩) (c6 : PySem.W.codeIn K cd6 "_law_cell" = true) (k6 : PySem.W.keepIn K (.ref f6) = true)
    (a7 : PySem.W.nsIn K mainGlobals "_law_row" = some (some (.ref f7)))
    (l7 : K.lookup f7 = some ⟨oc7, od7, .func (PySem.W.fnOf "_law_row" "_law_row" (defArgs s_l_row) (defBody s_l_row) (defScope s_l_row) .none kV7 dc7 pm7 an7 cd7 ct7), sl7⟩) (c7 : PySem.W.codeIn K cd7 "_law_row" = true) (k7 : PySem.W.keepIn K (.ref f7) = true)
    (a8 : PySem.W.nsIn K mainGlobals "_law_same" = some (some (.ref f8)))
    (l8 : K.lookup f8 = some ⟨oc8, od8, .func (PySem.W.fnOf "_law_same" "_law_same" (defArgs s_l_same) (defBody s_l_same) (defScope s_l_same) .none kV8 dc8 pm8 an8 cd8 ct8), sl8⟩) (c8 : PySem.W.codeIn K cd8 "_law_same" = true) (k8 : PySem.W.keepIn K (.ref f8) = true)
    (a9 : PySem.W.nsIn K mainGlobals "_law_names" = some (some (.ref f9)))
    (l9 : K.lookup f9 = some ⟨oc9, od9, .func (PySem.W.fnOf "_law_names" "_law_names" (defArgs s_l_names) (defBody s_l_names) (defScope s_l_names) .none kV9 dc9 pm9 an9 cd9 ct9), sl9⟩) (c9 : PySem.W.codeIn K cd9 "_law_names" = true) (k9 : PySem.W.keepIn K (.ref f9) = true)
    (a10 : PySem.W.nsIn K mainGlobals "_law_kinds" = some (some (.ref f10)))
    (l10 : K.lookup f10 = some ⟨oc10, od10, .func (PySem.W.fnOf "_law_kinds" "_law_kinds" (defArgs s_l_kinds) (defBody s_l_kinds) (defScope s_l_kinds) .none kV10 dc10 pm10 an10 cd10 ct10), sl10⟩) (c10 : PySem.W.codeIn K cd10 "_law_kinds" = true) (k10 : PySem.W.keepIn K (.ref f10) = true)
    (a11 : PySem.W.nsIn K mainGlobals "_law_may" = some (some (.ref f11)))
    (l11 : K.lookup f11 = some ⟨oc11, od11, .func (PySem.W.fnOf "_law_may" "_law_may" (defArgs s_l_may) (defBody s_l_may) (defScope s_l_may) .none kV11 dc11 pm11 an11 cd11 ct11), sl11⟩) (c11 : PySem.W.codeIn K cd11 "_law_may" = true) (k11 : PySem.W.keepIn K (.ref f11) = true)
    (a12 : PySem.W.nsIn K mainGlobals "_law_grammar" = some (some (.ref f12)))
    (l12 : K.lookup f12 = some ⟨oc12, od12, .func (PySem.W.fnOf "_law_grammar" "_law_grammar" (defArgs s_l_grammar) (defBody s_l_grammar) (defScope s_l_grammar) .none kV12 dc12 pm12 an12 cd12 ct12), sl12⟩) (c12 : PySem.W.codeIn K cd12 "_law_grammar" = true) (k12 : PySem.W.keepIn K (.ref f12) = true)
    (a13 : PySem.W.nsIn K mainGlobals "_law_error" = some (some (.ref f13)))
    (l13 : K.lookup f13 = some ⟨oc13, od13, .func (PySem.W.fnOf "_law_error" "_law_error" (defArgs s_l_error) (defBody s_l_error) (defScope s_l_error) .none kV13 dc13 pm13 an13 cd13 ct13), sl13⟩) (c13 : PySem.W.codeIn K cd13 "_law_error" = true) (k13 : PySem.W.keepIn K (.ref f13) = true)
    (a14 : PySem.W.nsIn K mainGlobals "_law_due" = some (some (.ref f14)))
    (l14 : K.lookup f14 = some ⟨oc14, od14, .func (PySem.W.fnOf "_law_due" "_law_due" (defArgs s_l_due) (defBody s_l_due) (defScope s_l_due) .none kV14 dc14 pm14 an14 cd14 ct14), sl14⟩) (c14 : PySem.W.codeIn K cd14 "_law_due" = true) (k14 : PySem.W.keepIn K (.ref f14) = true)
    (a15 : PySem.W.nsIn K mainGlobals "_law_tells" = some (some (.ref f15)))
    (l15 : K.lookup f15 = some ⟨oc15, od15, .func (PySem.W.fnOf "_law_tells" "_law_tells" (defArgs s_l_tells) (defBody s_l_tells) (defScope s_l_tells) .none kV15 dc15 pm15 an15 cd15 ct15), sl15⟩) (c15 : PySem.W.codeIn K cd15 "_law_tells" = true) (k15 : PySem.W.keepIn K (.ref f15) = true)
    (a16 : PySem.W.nsIn K mainGlobals "_law_asked" = some (some (.ref f16)))
    (l16 : K.lookup f16 = some ⟨oc16, od16, .func (PySem.W.fnOf "_law_asked" "_law_asked" (defArgs s_l_asked) (defBody s_l_asked) (defScope s_l_asked) .none kV16 dc16 pm16 an16 cd16 ct16), sl16⟩) (c16 : PySem.W.codeIn K cd16 "_law_asked" = true) (k16 : PySem.W.keepIn K (.ref f16) = true)
    (a17 : PySem.W.nsIn K mainGlobals "_law_put" = some (some (.ref f17)))
    (l17 : K.lookup f17 = some ⟨oc17, od17, .func (PySem.W.fnOf "_law_put" "_law_put" (defArgs s_l_put) (defBody s_l_put) (defScope s_l_put) .none kV17 dc17 pm17 an17 cd17 ct17), sl17⟩) (c17 : PySem.W.codeIn K cd17 "_law_put" = true) (k17 : PySem.W.keepIn K (.ref f17) = true)
    (a18 : PySem.W.nsIn K mainGlobals "_law_changed" = some (some (.ref f18)))
    (l18 : K.lookup f18 = some ⟨oc18, od18, .func (PySem.W.fnOf "_law_changed" "_law_changed" (defArgs s_l_changed) (defBody s_l_changed) (defScope s_l_changed) .none kV18 dc18 pm18 an18 cd18 ct18), sl18⟩) (c18 : PySem.W.codeIn K cd18 "_law_changed" = true) (k18 : PySem.W.keepIn K (.ref f18) = true)
    (a19 : PySem.W.nsIn K mainGlobals "law" = some (some (.ref f19)))
    (l19 : K.lookup f19 = some ⟨oc19, od19, .func (PySem.W.fnOf "law" "law" (defArgs s_law) (defBody s_law) (defScope s_law) .none kV19 dc19 pm19 an19 cd19 ct19), sl19⟩) (c19 : PySem.W.codeIn K cd19 "law" = true) (k19 : PySem.W.keepIn K (.ref f19) = true)
    (l20 : K.lookup f20 = some ⟨oc20, od20, .func (PySem.W.fnOf "__iter__" "Grammar.__iter__" (defArgs s_Grammar_iter) (defBody s_Grammar_iter) (defScope s_Grammar_iter) .none kV20 dc20 pm20 an20 cd20 ct20), sl20⟩) (c20 : PySem.W.codeIn K cd20 "Grammar.__iter__" = true) (k20 : PySem.W.keepIn K (.ref f20) = true)
    (z_ValueError : PySem.W.nsIn K mainGlobals "ValueError" = some none)
    (z_bool : PySem.W.nsIn K mainGlobals "bool" = some none)
    (z_int : PySem.W.nsIn K mainGlobals "int" = some none)
    (z_isinstance : PySem.W.nsIn K mainGlobals "isinstance" = some none)
    (z_iter : PySem.W.nsIn K mainGlobals "iter" = some none)
    (z_len : PySem.W.nsIn K mainGlobals "len" = some none)
    (z_list : PySem.W.nsIn K mainGlobals "list" = some none)
    (z_max : PySem.W.nsIn K mainGlobals "max" = some none)
    (z_range : PySem.W.nsIn K mainGlobals "range" = some none)
    (z_str : PySem.W.nsIn K mainGlobals "str" = some none)
    (z_sum : PySem.W.nsIn K mainGlobals "sum" = some none)
    (z_tuple : PySem.W.nsIn K mainGlobals "tuple" = some none)
    (y_INNER_ROLES : PySem.W.nsIn K mainGlobals "INNER_ROLES" = some (some (.ref kA_INNER_ROLES_0)))
    (kl_INNER_ROLES_1 : K.lookup kA_INNER_ROLES_1 = some ⟨.type "tuple", kod_INNER_ROLES_1, .seq #[.str "block" kt_INNER_ROLES_1_0, .str "head" kt_INNER_ROLES_1_1] kn_INNER_ROLES_1, ksl_INNER_ROLES_1⟩)
    (kl_INNER_ROLES_2 : K.lookup kA_INNER_ROLES_2 = some ⟨.type "tuple", kod_INNER_ROLES_2, .seq #[.str "span" kt_INNER_ROLES_2_0, .str "note" kt_INNER_ROLES_2_1, .str "figure" kt_INNER_ROLES_2_2, .str "ref" kt_INNER_ROLES_2_3] kn_INNER_ROLES_2, ksl_INNER_ROLES_2⟩)
    (kl_INNER_ROLES_3 : K.lookup kA_INNER_ROLES_3 = some ⟨.type "tuple", kod_INNER_ROLES_3, .seq #[.str "span" kt_INNER_ROLES_3_0, .str "ref" kt_INNER_ROLES_3_1] kn_INNER_ROLES_3, ksl_INNER_ROLES_3⟩)
    (kl_INNER_ROLES_4 : K.lookup kA_INNER_ROLES_4 = some ⟨.type "tuple", kod_INNER_ROLES_4, .seq #[.str "span" kt_INNER_ROLES_4_0, .str "ref" kt_INNER_ROLES_4_1] kn_INNER_ROLES_4, ksl_INNER_ROLES_4⟩)
    (kl_INNER_ROLES_5 : K.lookup kA_INNER_ROLES_5 = some ⟨.type "tuple", kod_INNER_ROLES_5, .seq #[.str "span" kt_INNER_ROLES_5_0] kn_INNER_ROLES_5, ksl_INNER_ROLES_5⟩)
    (kl_INNER_ROLES_6 : K.lookup kA_INNER_ROLES_6 = some ⟨.type "tuple", kod_INNER_ROLES_6, .seq #[.str "span" kt_INNER_ROLES_6_0] kn_INNER_ROLES_6, ksl_INNER_ROLES_6⟩)
    (kl_INNER_ROLES_7 : K.lookup kA_INNER_ROLES_7 = some ⟨.type "tuple", kod_INNER_ROLES_7, .seq #[] kn_INNER_ROLES_7, ksl_INNER_ROLES_7⟩)
    (kl_INNER_ROLES_0 : K.lookup kA_INNER_ROLES_0 = some ⟨.type "dict", none, .dict #[⟨kh_INNER_ROLES_0, .str "root" kt_INNER_ROLES_0, .ref kA_INNER_ROLES_1⟩, ⟨kh_INNER_ROLES_1, .str "block" kt_INNER_ROLES_1, .ref kA_INNER_ROLES_2⟩, ⟨kh_INNER_ROLES_2, .str "head" kt_INNER_ROLES_2, .ref kA_INNER_ROLES_3⟩, ⟨kh_INNER_ROLES_3, .str "span" kt_INNER_ROLES_3, .ref kA_INNER_ROLES_4⟩, ⟨kh_INNER_ROLES_4, .str "note" kt_INNER_ROLES_4, .ref kA_INNER_ROLES_5⟩, ⟨kh_INNER_ROLES_5, .str "figure" kt_INNER_ROLES_5, .ref kA_INNER_ROLES_6⟩, ⟨kh_INNER_ROLES_6, .str "ref" kt_INNER_ROLES_6, .ref kA_INNER_ROLES_7⟩] kn_INNER_ROLES_0, #[]⟩)
    (kk_INNER_ROLES : PySem.W.KeysLit w.params [⟨kh_INNER_ROLES_0, .str "root" kt_INNER_ROLES_0, .ref kA_INNER_ROLES_1⟩, ⟨kh_INNER_ROLES_1, .str "block" kt_INNER_ROLES_1, .ref kA_INNER_ROLES_2⟩, ⟨kh_INNER_ROLES_2, .str "head" kt_INNER_ROLES_2, .ref kA_INNER_ROLES_3⟩, ⟨kh_INNER_ROLES_3, .str "span" kt_INNER_ROLES_3, .ref kA_INNER_ROLES_4⟩, ⟨kh_INNER_ROLES_4, .str "note" kt_INNER_ROLES_4, .ref kA_INNER_ROLES_5⟩, ⟨kh_INNER_ROLES_5, .str "figure" kt_INNER_ROLES_5, .ref kA_INNER_ROLES_6⟩, ⟨kh_INNER_ROLES_6, .str "ref" kt_INNER_ROLES_6, .ref kA_INNER_ROLES_7⟩])
    (km_INNER_ROLES : (kA_INNER_ROLES_0 == sysModules) = false)
    (x_LaidError : PySem.W.nsIn K mainGlobals "LaidError" = some (some (.ref A_LaidError)))
    (x_Misfit : PySem.W.nsIn K mainGlobals "Misfit" = some (some (.ref A_Misfit)))
    (x_Strange : PySem.W.nsIn K mainGlobals "Strange" = some (some (.ref A_Strange)))
    (x_Taken : PySem.W.nsIn K mainGlobals "Taken" = some (some (.ref A_Taken)))
    (x_Unknown : PySem.W.nsIn K mainGlobals "Unknown" = some (some (.ref A_Unknown)))
    (X1_Misfit : K.lookup A_Misfit = some (excClassObj nm_Misfit qq_Misfit A_Misfit N_Misfit bs_Misfit bm_Misfit true sn_Misfit sb_Misfit ab_Misfit co_Misfit dd_Misfit m0_Misfit m1_Misfit m2_Misfit m3_Misfit m5_Misfit "ValueError.__new__")) (X2_Misfit : PySem.HandSPX.refsVE bm_Misfit = true)
    (X3_Misfit : PySem.W.findIn K (.ref A_Misfit) "__setattr__" = some (some (.builtin "object.__setattr__"))) (X4_Misfit : PySem.W.subIn K (.ref A_Misfit) (.type "BaseException") = some true) (X5_Misfit : PySem.W.typeIn K (.ref A_Misfit) = some (.type "type")) (X6_Misfit : PySem.W.keepIn K (.ref A_Misfit) = true)
    (X7_Misfit : PySem.W.findIn K (.ref A_Misfit) "__init__" = some (some (.ref fI_Misfit))) (X8_Misfit : PySem.W.typeIn K (.ref fI_Misfit) = some (.type "function")) (X9_Misfit : K.lookup fI_Misfit = some ⟨oc_Misfit, od_Misfit, .func (PySem.W.fnOf "__init__" "Misfit.__init__" (defArgs s_Misfit) (defBody s_Misfit) (defScope s_Misfit) .none kV_Misfit dc_Misfit pm_Misfit an_Misfit cd_Misfit ct_Misfit), sl_Misfit⟩) (Xa_Misfit : PySem.W.codeIn K cd_Misfit "Misfit.__init__" = true) (Xb_Misfit : PySem.W.keepIn K (.ref fI_Misfit) = true)
    (Y0_Misfit : PySem.W.findIn K (.ref A_Misfit) "kind" = some none)
    (Xc_Misfit : PySem.W.findIn K (.ref A_Misfit) "__getattribute__" = some (some (.builtin "BaseException.__getattribute__"))) (Xd_Misfit : PySem.W.findIn K (.ref A_Misfit) "__getattr__" = some none) (Xe_Misfit : PySem.W.hasDictIn K A_Misfit = true)
    (Xf_Misfit : PySem.W.findIn K (.ref A_Misfit) "__class__" = some (some (.builtin "object.__class__"))) (Xg_Misfit : PySem.W.specialIn K (.builtin "object.__class__") "__get__" = some (some (.builtin "getset_descriptor.__get__"))) (Xh_Misfit : PySem.W.takesIn K (.builtin "object.__class__") = some true) (Xi_Misfit : PySem.W.mroIn K A_Misfit (.type "object") = some true)
    (E_Misfit_LaidError : PySem.W.exmOne K (.ref A_Misfit) (.ref A_LaidError) = some true)
    (Q_Misfit_Misfit : PySem.W.kitOne K (.ref A_Misfit) (.ref A_Misfit) = some true)
    (Q_Misfit_Strange : PySem.W.kitOne K (.ref A_Misfit) (.ref A_Strange) = some false)
    (Q_Misfit_Taken : PySem.W.kitOne K (.ref A_Misfit) (.ref A_Taken) = some false)
    (Q_Misfit_Unknown : PySem.W.kitOne K (.ref A_Misfit) (.ref A_Unknown) = some false)
    (Q_Misfit_ValueError : PySem.W.kitOne K (.ref A_Misfit) (.type "ValueError") = some true)
    (X1_Taken : K.lookup A_Taken = some (excClassObj nm_Taken qq_Taken A_Taken N_Taken bs_Taken bm_Taken true sn_Taken sb_Taken ab_Taken co_Taken dd_Taken m0_Taken m1_Taken m2_Taken m3_Taken m5_Taken "ValueError.__new__")) (X2_Taken : PySem.HandSPX.refsVE bm_Taken = true)
    (X3_Taken : PySem.W.findIn K (.ref A_Taken) "__setattr__" = some (some (.builtin "object.__setattr__"))) (X4_Taken : PySem.W.subIn K (.ref A_Taken) (.type "BaseException") = some true) (X5_Taken : PySem.W.typeIn K (.ref A_Taken) = some (.type "type")) (X6_Taken : PySem.W.keepIn K (.ref A_Taken) = true)
    (X7_Taken : PySem.W.findIn K (.ref A_Taken) "__init__" = some (some (.ref fI_Taken))) (X8_Taken : PySem.W.typeIn K (.ref fI_Taken) = some (.type "function")) (X9_Taken : K.lookup fI_Taken = some ⟨oc_Taken, od_Taken, .func (PySem.W.fnOf "__init__" "Taken.__init__" (defArgs s_Taken) (defBody s_Taken) (defScope s_Taken) .none kV_Taken dc_Taken pm_Taken an_Taken cd_Taken ct_Taken), sl_Taken⟩) (Xa_Taken : PySem.W.codeIn K cd_Taken "Taken.__init__" = true) (Xb_Taken : PySem.W.keepIn K (.ref fI_Taken) = true)
    (Y0_Taken : PySem.W.findIn K (.ref A_Taken) "kind" = some none)
    (Xc_Taken : PySem.W.findIn K (.ref A_Taken) "__getattribute__" = some (some (.builtin "BaseException.__getattribute__"))) (Xd_Taken : PySem.W.findIn K (.ref A_Taken) "__getattr__" = some none) (Xe_Taken : PySem.W.hasDictIn K A_Taken = true)
    (Xf_Taken : PySem.W.findIn K (.ref A_Taken) "__class__" = some (some (.builtin "object.__class__"))) (Xg_Taken : PySem.W.specialIn K (.builtin "object.__class__") "__get__" = some (some (.builtin "getset_descriptor.__get__"))) (Xh_Taken : PySem.W.takesIn K (.builtin "object.__class__") = some true) (Xi_Taken : PySem.W.mroIn K A_Taken (.type "object") = some true)
    (E_Taken_LaidError : PySem.W.exmOne K (.ref A_Taken) (.ref A_LaidError) = some true)
    (Q_Taken_Misfit : PySem.W.kitOne K (.ref A_Taken) (.ref A_Misfit) = some false)
    (Q_Taken_Strange : PySem.W.kitOne K (.ref A_Taken) (.ref A_Strange) = some false)
    (Q_Taken_Taken : PySem.W.kitOne K (.ref A_Taken) (.ref A_Taken) = some true)
    (Q_Taken_Unknown : PySem.W.kitOne K (.ref A_Taken) (.ref A_Unknown) = some false)
    (Q_Taken_ValueError : PySem.W.kitOne K (.ref A_Taken) (.type "ValueError") = some true)
    (X1_Unknown : K.lookup A_Unknown = some (excClassObj nm_Unknown qq_Unknown A_Unknown N_Unknown bs_Unknown bm_Unknown true sn_Unknown sb_Unknown ab_Unknown co_Unknown dd_Unknown m0_Unknown m1_Unknown m2_Unknown m3_Unknown m5_Unknown "ValueError.__new__")) (X2_Unknown : PySem.HandSPX.refsVE bm_Unknown = true)
    (X3_Unknown : PySem.W.findIn K (.ref A_Unknown) "__setattr__" = some (some (.builtin "object.__setattr__"))) (X4_Unknown : PySem.W.subIn K (.ref A_Unknown) (.type "BaseException") = some true) (X5_Unknown : PySem.W.typeIn K (.ref A_Unknown) = some (.type "type")) (X6_Unknown : PySem.W.keepIn K (.ref A_Unknown) = true)
    (X7_Unknown : PySem.W.findIn K (.ref A_Unknown) "__init__" = some (some (.ref fI_Unknown))) (X8_Unknown : PySem.W.typeIn K (.ref fI_Unknown) = some (.type "function")) (X9_Unknown : K.lookup fI_Unknown = some ⟨oc_Unknown, od_Unknown, .func (PySem.W.fnOf "__init__" "Unknown.__init__" (defArgs s_Unknown) (defBody s_Unknown) (defScope s_Unknown) .none kV_Unknown dc_Unknown pm_Unknown an_Unknown cd_Unknown ct_Unknown), sl_Unknown⟩) (Xa_Unknown : PySem.W.codeIn K cd_Unknown "Unknown.__init__" = true) (Xb_Unknown : PySem.W.keepIn K (.ref fI_Unknown) = true)
    (Y0_Unknown : PySem.W.findIn K (.ref A_Unknown) "kind" = some none)
    (Xc_Unknown : PySem.W.findIn K (.ref A_Unknown) "__getattribute__" = some (some (.builtin "BaseException.__getattribute__"))) (Xd_Unknown : PySem.W.findIn K (.ref A_Unknown) "__getattr__" = some none) (Xe_Unknown : PySem.W.hasDictIn K A_Unknown = true)
    (Xf_Unknown : PySem.W.findIn K (.ref A_Unknown) "__class__" = some (some (.builtin "object.__class__"))) (Xg_Unknown : PySem.W.specialIn K (.builtin "object.__class__") "__get__" = some (some (.builtin "getset_descriptor.__get__"))) (Xh_Unknown : PySem.W.takesIn K (.builtin "object.__class__") = some true) (Xi_Unknown : PySem.W.mroIn K A_Unknown (.type "object") = some true)
    (E_Unknown_LaidError : PySem.W.exmOne K (.ref A_Unknown) (.ref A_LaidError) = some true)
    (Q_Unknown_Misfit : PySem.W.kitOne K (.ref A_Unknown) (.ref A_Misfit) = some false)
    (Q_Unknown_Strange : PySem.W.kitOne K (.ref A_Unknown) (.ref A_Strange) = some false)
    (Q_Unknown_Taken : PySem.W.kitOne K (.ref A_Unknown) (.ref A_Taken) = some false)
    (Q_Unknown_Unknown : PySem.W.kitOne K (.ref A_Unknown) (.ref A_Unknown) = some true)
    (Q_Unknown_ValueError : PySem.W.kitOne K (.ref A_Unknown) (.type "ValueError") = some true)
    (x_Grammar : PySem.W.nsIn K mainGlobals "Grammar" = some (some (.ref A_Grammar))) (P1_Grammar : PySem.W.plainGet K A_Grammar Str.empty = true) (P2_Grammar : PySem.W.hasDictIn K A_Grammar = true) (P3_Grammar : PySem.W.plainOver K A_Grammar = true) (P4_Grammar : PySem.W.findIn K (.ref A_Grammar) "__setattr__" = some (some (.builtin "object.__setattr__")))
    (M1_Grammar : PySem.W.makesIn K A_Grammar = true) (M2_Grammar : PySem.W.findIn K (.ref A_Grammar) "__init__" = some (some (.ref f1))) (M3_Grammar : PySem.W.isFn K (.ref f1) = true) (M4_Grammar : PySem.W.keepIn K (.ref A_Grammar) = true)
    (N_Grammar_entries : PySem.W.findIn K (.ref A_Grammar) "entries" = some none)
    (N_Grammar_order : PySem.W.findIn K (.ref A_Grammar) "order" = some none)
    (N_Grammar_root : PySem.W.findIn K (.ref A_Grammar) "root" = some none)
    (m1_Grammar___contains__ : PySem.W.findIn K (.ref A_Grammar) "__contains__" = some (some (.ref f4))) (m2_Grammar___contains__ : PySem.W.isFn K (.ref f4) = true)
    (m1_Grammar___getitem__ : PySem.W.findIn K (.ref A_Grammar) "__getitem__" = some (some (.ref f3))) (m2_Grammar___getitem__ : PySem.W.isFn K (.ref f3) = true)
    (m1_Grammar___iter__ : PySem.W.findIn K (.ref A_Grammar) "__iter__" = some (some (.ref f20))) (m2_Grammar___iter__ : PySem.W.isFn K (.ref f20) = true)
    (m1_Grammar___len__ : PySem.W.findIn K (.ref A_Grammar) "__len__" = some (some (.ref f5))) (m2_Grammar___len__ : PySem.W.isFn K (.ref f5) = true)
    (m1_Grammar_check_inner : PySem.W.findIn K (.ref A_Grammar) "check_inner" = some (some (.ref f0))) (m2_Grammar_check_inner : PySem.W.isFn K (.ref f0) = true)
    (R1_Grammar : PySem.W.readsIn K A_Grammar (.type "type") = true) (R2_Grammar : PySem.W.specialIn K (.ref A_Grammar) "__getattribute__" = some (some (.builtin "type.__getattribute__")))
    (S1_Grammar_usual : PySem.W.findCls K (.ref A_Grammar) (.type "type") "usual" = some (.get (.builtin "staticmethod.__get__") (.ref sp_Grammar_usual) .none (.ref A_Grammar))) (S2_Grammar_usual : PySem.W.recIn K sp_Grammar_usual "staticmethod" = some (.ref f2 :: sr_Grammar_usual)) : ∃ T : Txt w K mg, T.f_law = f19 ∧ T.fd_law = PySem.W.fnOf "law" "law" (defArgs s_law) (defBody s_law) (defScope s_law) .none kV19 dc19 pm19 an19 cd19 ct19 := by
  have F0 := fun_mk (st := s_Grammar_check_inner) l0 c0 k0
  have b0 := F0.binds (ps := ["self", "kind"]) fun _ _ _ _ _ _ us hl => match us, hl with | [_, _], _ => rfl
  have F1 := fun_mk (st := s_Grammar_init) l1 c1 k1
  have b1 := F1.binds (ps := ["self", "root", "rows"]) fun _ _ _ _ _ _ us hl => match us, hl with | [_, _, _], _ => rfl
  have F2 := fun_mk (st := s_Grammar_usual) l2 c2 k2
  have b2 := F2.binds (ps := []) fun _ _ _ _ _ _ us hl => match us, hl with | [], _ => rfl
  have F3 := fun_mk (st := s_Grammar_getitem) l3 c3 k3
  have b3 := F3.binds (ps := ["self", "kind"]) fun _ _ _ _ _ _ us hl => match us, hl with | [_, _], _ => rfl
  have F4 := fun_mk (st := s_Grammar_contains) l4 c4 k4
  have b4 := F4.binds (ps := ["self", "kind"]) fun _ _ _ _ _ _ us hl => match us, hl with | [_, _], _ => rfl
  have F5 := fun_mk (st := s_Grammar_len) l5 c5 k5
  have b5 := F5.binds (ps := ["self"]) fun _ _ _ _ _ _ us hl => match us, hl with | [_], _ => rfl
  have F6 := fun_mk (st := s_l_cell) l6 c6 k6
  have b6 := F6.binds (ps := ["_law_script", "_law_k"]) fun _ _ _ _ _ _ us hl => match us, hl with | [_, _], _ => rfl
  have F7 := fun_mk (st := s_l_row) l7 c7 k7
  have b7 := F7.binds (ps := ["_law_cell_here", "_law_limits"]) fun _ _ _ _ _ _ us hl => match us, hl with | [_, _], _ => rfl
  have F8 := fun_mk (st := s_l_same) l8 c8 k8
  have b8 := F8.binds (ps := ["_law_one", "_law_two"]) fun _ _ _ _ _ _ us hl => match us, hl with | [_, _], _ => rfl
  have F9 := fun_mk (st := s_l_names) l9 c9 k9
  have b9 := F9.binds (ps := ["_law_cell_here", "_law_many"]) fun _ _ _ _ _ _ us hl => match us, hl with | [_, _], _ => rfl
  have F10 := fun_mk (st := s_l_kinds) l10 c10 k10
  have b10 := F10.binds (ps := ["_law_cell_here", "_law_many"]) fun _ _ _ _ _ _ us hl => match us, hl with | [_, _], _ => rfl
  have F11 := fun_mk (st := s_l_may) l11 c11 k11
  have b11 := F11.binds (ps := ["_law_outer", "_law_inner"]) fun _ _ _ _ _ _ us hl => match us, hl with | [_, _], _ => rfl
  have F12 := fun_mk (st := s_l_grammar) l12 c12 k12
  have b12 := F12.binds (ps := ["_law_cell_here", "_law_kinds_here"]) fun _ _ _ _ _ _ us hl => match us, hl with | [_, _], _ => rfl
  have F13 := fun_mk (st := s_l_error) l13 c13 k13
  have b13 := F13.binds (ps := ["_law_e"]) fun _ _ _ _ _ _ us hl => match us, hl with | [_], _ => rfl
  have F14 := fun_mk (st := s_l_due) l14 c14 k14
  have b14 := F14.binds (ps := ["_law_top", "_law_rows"]) fun _ _ _ _ _ _ us hl => match us, hl with | [_, _], _ => rfl
  have F15 := fun_mk (st := s_l_tells) l15 c15 k15
  have b15 := F15.binds (ps := ["_law_grammar_here", "_law_top", "_law_rows", "_law_stranger"]) fun _ _ _ _ _ _ us hl => match us, hl with | [_, _, _, _], _ => rfl
  have F16 := fun_mk (st := s_l_asked) l16 c16 k16
  have b16 := F16.binds (ps := ["_law_top", "_law_rows", "_law_stranger"]) fun _ _ _ _ _ _ us hl => match us, hl with | [_, _, _], _ => rfl
  have F17 := fun_mk (st := s_l_put) l17 c17 k17
  have b17 := F17.binds (ps := ["_law_inner", "_law_at", "_law_kind"]) fun _ _ _ _ _ _ us hl => match us, hl with | [_, _, _], _ => rfl
  have F18 := fun_mk (st := s_l_changed) l18 c18 k18
  have b18 := F18.binds (ps := ["_law_top", "_law_rows", "_law_changes", "_law_stranger"]) fun _ _ _ _ _ _ us hl => match us, hl with | [_, _, _, _], _ => rfl
  have F19 := fun_mk (st := s_law) l19 c19 k19
  have b19 := F19.binds (ps := ["_law_script"]) fun _ _ _ _ _ _ us hl => match us, hl with | [_], _ => rfl
  have F20 := fun_mk (st := s_Grammar_iter) l20 c20 k20
  have b20 := F20.binds (ps := ["self"]) fun _ _ _ _ _ _ us hl => match us, hl with | [_], _ => rfl
  have FI_Misfit := fun_mk (st := s_Misfit) X9_Misfit Xa_Misfit Xb_Misfit
  have bI_Misfit := FI_Misfit.binds (ps := ["self", "kind"]) fun _ _ _ _ _ _ us hl => match us, hl with | [_, _], _ => rfl
  have FI_Taken := fun_mk (st := s_Taken) X9_Taken Xa_Taken Xb_Taken
  have bI_Taken := FI_Taken.binds (ps := ["self", "kind"]) fun _ _ _ _ _ _ us hl => match us, hl with | [_, _], _ => rfl
  have FI_Unknown := fun_mk (st := s_Unknown) X9_Unknown Xa_Unknown Xb_Unknown
  have bI_Unknown := FI_Unknown.binds (ps := ["self", "kind"]) fun _ _ _ _ _ _ us hl => match us, hl with | [_, _], _ => rfl
  exact ⟨⟨f0, _, F0, b0, f1, _, F1, b1, f2, _, F2, b2, f3, _, F3, b3, f4, _, F4, b4, f5, _, F5, b5, f6, _, F6, PySem.W.mg_of X G a6, b6, f7, _, F7, PySem.W.mg_of X G a7, b7, f8, _, F8, PySem.W.mg_of X G a8, b8, f9, _, F9, PySem.W.mg_of X G a9, b9, f10, _, F10, PySem.W.mg_of X G a10, b10, f11, _, F11, PySem.W.mg_of X G a11, b11, f12, _, F12, PySem.W.mg_of X G a12, b12, f13, _, F13, PySem.W.mg_of X G a13, b13, f14, _, F14, PySem.W.mg_of X G a14, b14, f15, _, F15, PySem.W.mg_of X G a15, b15, f16, _, F16, PySem.W.mg_of X G a16, b16, f17, _, F17, PySem.W.mg_of X G a17, b17, f18, _, F18, PySem.W.mg_of X G a18, b18, f19, _, F19, PySem.W.mg_of X G a19, b19, f20, _, F20, b20, PySem.W.mg_none_of X G z_ValueError, PySem.W.mg_none_of X G z_bool, PySem.W.mg_none_of X G z_int, PySem.W.mg_none_of X G z_isinstance, PySem.W.mg_none_of X G z_iter, PySem.W.mg_none_of X G z_len, PySem.W.mg_none_of X G z_list, PySem.W.mg_none_of X G z_max, PySem.W.mg_none_of X G z_range, PySem.W.mg_none_of X G z_str, PySem.W.mg_none_of X G z_sum, PySem.W.mg_none_of X G z_tuple, kA_INNER_ROLES_0, PySem.W.mg_of X G y_INNER_ROLES, ModD.mk (es := [⟨kh_INNER_ROLES_0, .str "root" kt_INNER_ROLES_0, .ref kA_INNER_ROLES_1⟩, ⟨kh_INNER_ROLES_1, .str "block" kt_INNER_ROLES_1, .ref kA_INNER_ROLES_2⟩, ⟨kh_INNER_ROLES_2, .str "head" kt_INNER_ROLES_2, .ref kA_INNER_ROLES_3⟩, ⟨kh_INNER_ROLES_3, .str "span" kt_INNER_ROLES_3, .ref kA_INNER_ROLES_4⟩, ⟨kh_INNER_ROLES_4, .str "note" kt_INNER_ROLES_4, .ref kA_INNER_ROLES_5⟩, ⟨kh_INNER_ROLES_5, .str "figure" kt_INNER_ROLES_5, .ref kA_INNER_ROLES_6⟩, ⟨kh_INNER_ROLES_6, .str "ref" kt_INNER_ROLES_6, .ref kA_INNER_ROLES_7⟩]) kl_INNER_ROLES_0 kk_INNER_ROLES km_INNER_ROLES (.cons (v := .ref kA_INNER_ROLES_1) (by decide +kernel) rfl (fun cm S => (kt_mk (us := [.str "block" kt_INNER_ROLES_1_0, .str "head" kt_INNER_ROLES_1_1]) (xs := [.str "block", .str "head"]) kl_INNER_ROLES_1 (by simp) (.cons ⟨_, rfl⟩ (.cons ⟨_, rfl⟩ .nil)) (.cons (.str _) (.cons (.str _) .nil)))) (.cons (v := .ref kA_INNER_ROLES_2) (by decide +kernel) rfl (fun cm S => (kt_mk (us := [.str "span" kt_INNER_ROLES_2_0, .str "note" kt_INNER_ROLES_2_1, .str "figure" kt_INNER_ROLES_2_2, .str "ref" kt_INNER_ROLES_2_3]) (xs := [.str "span", .str "note", .str "figure", .str "ref"]) kl_INNER_ROLES_2 (by simp) (.cons ⟨_, rfl⟩ (.cons ⟨_, rfl⟩ (.cons ⟨_, rfl⟩ (.cons ⟨_, rfl⟩ .nil)))) (.cons (.str _) (.cons (.str _) (.cons (.str _) (.cons (.str _) .nil)))))) (.cons (v := .ref kA_INNER_ROLES_3) (by decide +kernel) rfl (fun cm S => (kt_mk (us := [.str "span" kt_INNER_ROLES_3_0, .str "ref" kt_INNER_ROLES_3_1]) (xs := [.str "span", .str "ref"]) kl_INNER_ROLES_3 (by simp) (.cons ⟨_, rfl⟩ (.cons ⟨_, rfl⟩ .nil)) (.cons (.str _) (.cons (.str _) .nil)))) (.cons (v := .ref kA_INNER_ROLES_4) (by decide +kernel) rfl (fun cm S => (kt_mk (us := [.str "span" kt_INNER_ROLES_4_0, .str "ref" kt_INNER_ROLES_4_1]) (xs := [.str "span", .str "ref"]) kl_INNER_ROLES_4 (by simp) (.cons ⟨_, rfl⟩ (.cons ⟨_, rfl⟩ .nil)) (.cons (.str _) (.cons (.str _) .nil)))) (.cons (v := .ref kA_INNER_ROLES_5) (by decide +kernel) rfl (fun cm S => (kt_mk (us := [.str "span" kt_INNER_ROLES_5_0]) (xs := [.str "span"]) kl_INNER_ROLES_5 (by simp) (.cons ⟨_, rfl⟩ .nil) (.cons (.str _) .nil))) (.cons (v := .ref kA_INNER_ROLES_6) (by decide +kernel) rfl (fun cm S => (kt_mk (us := [.str "span" kt_INNER_ROLES_6_0]) (xs := [.str "span"]) kl_INNER_ROLES_6 (by simp) (.cons ⟨_, rfl⟩ .nil) (.cons (.str _) .nil))) (.cons (v := .ref kA_INNER_ROLES_7) (by decide +kernel) rfl (fun cm S => (kt_mk (us := []) (xs := []) kl_INNER_ROLES_7 (by simp) .nil .nil)) .nil))))))), A_LaidError, PySem.W.mg_of X G x_LaidError, A_Misfit, PySem.W.mg_of X G x_Misfit, A_Strange, PySem.W.mg_of X G x_Strange, A_Taken, PySem.W.mg_of X G x_Taken, A_Unknown, PySem.W.mg_of X G x_Unknown, ⟨⟨_, _, _, _, _, _, _, _, _, _, _, _, _, _, _, X1_Misfit, X2_Misfit⟩, X3_Misfit, X4_Misfit, X5_Misfit, X6_Misfit⟩, fI_Misfit, _, X7_Misfit, X8_Misfit, FI_Misfit, bI_Misfit, Y0_Misfit, ⟨Xc_Misfit, Xd_Misfit, X4_Misfit, Xe_Misfit⟩, ⟨Xc_Misfit, Xd_Misfit, X4_Misfit, Xe_Misfit, Xf_Misfit, Xg_Misfit, Xh_Misfit, Xi_Misfit⟩, E_Misfit_LaidError, Q_Misfit_Misfit, Q_Misfit_Strange, Q_Misfit_Taken, Q_Misfit_Unknown, Q_Misfit_ValueError, ⟨⟨_, _, _, _, _, _, _, _, _, _, _, _, _, _, _, X1_Taken, X2_Taken⟩, X3_Taken, X4_Taken, X5_Taken, X6_Taken⟩, fI_Taken, _, X7_Taken, X8_Taken, FI_Taken, bI_Taken, Y0_Taken, ⟨Xc_Taken, Xd_Taken, X4_Taken, Xe_Taken⟩, ⟨Xc_Taken, Xd_Taken, X4_Taken, Xe_Taken, Xf_Taken, Xg_Taken, Xh_Taken, Xi_Taken⟩, E_Taken_LaidError, Q_Taken_Misfit, Q_Taken_Strange, Q_Taken_Taken, Q_Taken_Unknown, Q_Taken_ValueError, ⟨⟨_, _, _, _, _, _, _, _, _, _, _, _, _, _, _, X1_Unknown, X2_Unknown⟩, X3_Unknown, X4_Unknown, X5_Unknown, X6_Unknown⟩, fI_Unknown, _, X7_Unknown, X8_Unknown, FI_Unknown, bI_Unknown, Y0_Unknown, ⟨Xc_Unknown, Xd_Unknown, X4_Unknown, Xe_Unknown⟩, ⟨Xc_Unknown, Xd_Unknown, X4_Unknown, Xe_Unknown, Xf_Unknown, Xg_Unknown, Xh_Unknown, Xi_Unknown⟩, E_Unknown_LaidError, Q_Unknown_Misfit, Q_Unknown_Strange, Q_Unknown_Taken, Q_Unknown_Unknown, Q_Unknown_ValueError, A_Grammar, PySem.W.mg_of X G x_Grammar, ⟨P1_Grammar, P2_Grammar, P3_Grammar, P4_Grammar⟩, ⟨M1_Grammar, M2_Grammar, M3_Grammar, M4_Grammar⟩, N_Grammar_entries, N_Grammar_order, N_Grammar_root, ⟨m1_Grammar___contains__, m2_Grammar___contains__, k4⟩, ⟨m1_Grammar___getitem__, m2_Grammar___getitem__, k3⟩, ⟨m1_Grammar___iter__, m2_Grammar___iter__, k20⟩, ⟨m1_Grammar___len__, m2_Grammar___len__, k5⟩, ⟨m1_Grammar_check_inner, m2_Grammar_check_inner, k0⟩, ⟨R1_Grammar, R2_Grammar⟩, sp_Grammar_usual, ⟨S1_Grammar_usual, ⟨_, S2_Grammar_usual⟩, k2⟩⟩, rfl, rfl⟩
def spLaw (K : PySem.W.Frag) : Sp := fun vs H Q _ => ∃ (a : Addr) (ns : List Int), vs = [.ref a] ∧ SqL K H a (ns.map V.int) ∧ ns.length ≤ 63 ∧ ∀ H', Q (.bl true) H'
theorem ok_end {P : Program} {w : World} {K : PySem.W.Frag} {mg : Str → Option Value} {base : Heap} (T : Txt w K mg) : FnOk P w K mg base (L2N.CX P w) 8 T.f_law T.fd_law ["_law_script"] (spLaw K) := FnOk.imp (ok_law T) fun vs H Q E ⟨a, ns, e, hS, hl, k⟩ => by
  subst e
  exact law_sp (law_true ns hl) hS k
theorem all_mk {l : PySem.W.OpenLaw} {w : World} {K : PySem.W.Frag} {h : Heap} {mg : Str → Option Value} {fa : Addr} (X : K.In h) (G : h.Ns mainGlobals mg) (hfa : mg "law" = some (.ref fa))
    {f0 : Addr} {oc0 kV0 dc0 pm0 cd0 ct0 : Value} {od0 an0 : Option Addr} {sl0 : Array (Option Value)}
    {f1 : Addr} {oc1 kV1 dc1 pm1 cd1 ct1 : Value} {od1 an1 : Option Addr} {sl1 : Array (Option Value)}
    {f2 : Addr} {oc2 kV2 dc2 pm2 cd2 ct2 : Value} {od2 an2 : Option Addr} {sl2 : Array (Option Value)}
    {f3 : Addr} {oc3 kV3 dc3 pm3 cd3 ct3 : Value} {od3 an3 : Option Addr} {sl3 : Array (Option Value)}
    {f4 : Addr} {oc4 kV4 dc4 pm4 cd4 ct4 : Value} {od4 an4 : Option Addr} {sl4 : Array (Option Value)}
    {f5 : Addr} {oc5 kV5 dc5 pm5 cd5 ct5 : Value} {od5 an5 : Option Addr} {sl5 : Array (Option Value)}
    {f6 : Addr} {oc6 kV6 dc6 pm6 cd6 ct6 : Value} {od6 an6 : Option Addr} {sl6 : Array (Option Value)}
    {f7 : Addr} {oc7 kV7 dc7 pm7 cd7 ct7 : Value} {od7 an7 : Option Addr} {sl7 : Array (Option Value)}
    {f8 : Addr} {oc8 kV8 dc8 pm8 cd8 ct8 : Value} {od8 an8 : Option Addr} {sl8 : Array (Option Value)}
    {f9 : Addr} {oc9 kV9 dc9 pm9 cd9 ct9 : Value} {od9 an9 : Option Addr} {sl9 : Array (Option Value)}
    {f10 : Addr} {oc10 kV10 dc10 pm10 cd10 ct10 : Value} {od10 an10 : Option Addr} {sl10 : Array (Option Value)}
    {f11 : Addr} {oc11 kV11 dc11 pm11 cd11 ct11 : Value} {od11 an11 : Option Addr} {sl11 : Array (Option Value)}
    {f12 : Addr} {oc12 kV12 dc12 pm12 cd12 ct12 : Value} {od12 an12 : Option Addr} {sl12 : Array (Option Value)}
    {f13 : Addr} {oc13 kV13 dc13 pm13 cd13 ct13 : Value} {od13 an13 : Option Addr} {sl13 : Array (Option Value)}
    {f14 : Addr} {oc14 kV14 dc14 pm14 cd14 ct14 : Value} {od14 an14 : Option Addr} {sl14 : Array (Option Value)}
    {f15 : Addr} {oc15 kV15 dc15 pm15 cd15 ct15 : Value} {od15 an15 : Option Addr} {sl15 : Array (Option Value)}
    {f16 : Addr} {oc16 kV16 dc16 pm16 cd16 ct16 : Value} {od16 an16 : Option Addr} {sl16 : Array (Option Value)}
    {f17 : Addr} {oc17 kV17 dc17 pm17 cd17 ct17 : Value} {od17 an17 : Option Addr} {sl17 : Array (Option Value)}
    {f18 : Addr} {oc18 kV18 dc18 pm18 cd18 ct18 : Value} {od18 an18 : Option Addr} {sl18 : Array (Option Value)}
    {f19 : Addr} {oc19 kV19 dc19 pm19 cd19 ct19 : Value} {od19 an19 : Option Addr} {sl19 : Array (Option Value)}
    {f20 : Addr} {oc20 kV20 dc20 pm20 cd20 ct20 : Value} {od20 an20 : Option Addr} {sl20 : Array (Option Value)}
    {kA_INNER_ROLES_0 : Addr} {kn_INNER_ROLES_0 : Nat}
    {kh_INNER_ROLES_0 : Int} {kt_INNER_ROLES_0 : Tok}
    {kt_INNER_ROLES_1_0 : Tok}
    {kt_INNER_ROLES_1_1 : Tok}
    {kA_INNER_ROLES_1 : Addr} {kod_INNER_ROLES_1 : Option Addr} {kn_INNER_ROLES_1 : Nat} {ksl_INNER_ROLES_1 : Array (Option Value)}
    {kh_INNER_ROLES_1 : Int} {kt_INNER_ROLES_1 : Tok}
    {kt_INNER_ROLES_2_0 : Tok}
    {kt_INNER_ROLES_2_1 : Tok}
    {kt_INNER_ROLES_2_2 : Tok}
    {kt_INNER_ROLES_2_3 : Tok}
    {kA_INNER_ROLES_2 : Addr} {kod_INNER_ROLES_2 : Option Addr} {kn_INNER_ROLES_2 : Nat} {ksl_INNER_ROLES_2 : Array (Option Value)}
    {kh_INNER_ROLES_2 : Int} {kt_INNER_ROLES_2 : Tok}
    {kt_INNER_ROLES_3_0 : Tok}
    {kt_INNER_ROLES_3_1 : Tok}
    {kA_INNER_ROLES_3 : Addr} {kod_INNER_ROLES_3 : Option Addr} {kn_INNER_ROLES_3 : Nat} {ksl_INNER_ROLES_3 : Array (Option Value)}
    {kh_INNER_ROLES_3 : Int} {kt_INNER_ROLES_3 : Tok}
    {kt_INNER_ROLES_4_0 : Tok}
    {kt_INNER_ROLES_4_1 : Tok}
    {kA_INNER_ROLES_4 : Addr} {kod_INNER_ROLES_4 : Option Addr} {kn_INNER_ROLES_4 : Nat} {ksl_INNER_ROLES_4 : Array (Option Value)}
    {kh_INNER_ROLES_4 : Int} {kt_INNER_ROLES_4 : Tok}
    {kt_INNER_ROLES_5_0 : Tok}
    {kA_INNER_ROLES_5 : Addr} {kod_INNER_ROLES_5 : Option Addr} {kn_INNER_ROLES_5 : Nat} {ksl_INNER_ROLES_5 : Array (Option Value)}
    {kh_INNER_ROLES_5 : Int} {kt_INNER_ROLES_5 : Tok}
    {kt_INNER_ROLES_6_0 : Tok}
    {kA_INNER_ROLES_6 : Addr} {kod_INNER_ROLES_6 : Option Addr} {kn_INNER_ROLES_6 : Nat} {ksl_INNER_ROLES_6 : Array (Option Value)}
    {kh_INNER_ROLES_6 : Int} {kt_INNER_ROLES_6 : Tok}
    {kA_INNER_ROLES_7 : Addr} {kod_INNER_ROLES_7 : Option Addr} {kn_INNER_ROLES_7 : Nat} {ksl_INNER_ROLES_7 : Array (Option Value)}
    {A_LaidError : Addr}
    {A_Misfit : Addr}
    {A_Strange : Addr}
    {A_Taken : Addr}
    {A_Unknown : Addr}
    {nm_Misfit qq_Misfit : Str} {N_Misfit fI_Misfit : Addr} {bs_Misfit bm_Misfit : List Value} {sn_Misfit : List Str} {sb_Misfit : List Value} {ab_Misfit : Bool} {co_Misfit : Option Bool} {dd_Misfit od_Misfit an_Misfit : Option Addr} {m0_Misfit m1_Misfit m2_Misfit m3_Misfit m5_Misfit : Option Value} {oc_Misfit kV_Misfit dc_Misfit pm_Misfit cd_Misfit ct_Misfit : Value} {sl_Misfit : Array (Option Value)}
    {nm_Taken qq_Taken : Str} {N_Taken fI_Taken : Addr} {bs_Taken bm_Taken : List Value} {sn_Taken : List Str} {sb_Taken : List Value} {ab_Taken : Bool} {co_Taken : Option Bool} {dd_Taken od_Taken an_Taken : Option Addr} {m0_Taken m1_Taken m2_Taken m3_Taken m5_Taken : Option Value} {oc_Taken kV_Taken dc_Taken pm_Taken cd_Taken ct_Taken : Value} {sl_Taken : Array (Option Value)}
    {nm_Unknown qq_Unknown : Str} {N_Unknown fI_Unknown : Addr} {bs_Unknown bm_Unknown : List Value} {sn_Unknown : List Str} {sb_Unknown : List Value} {ab_Unknown : Bool} {co_Unknown : Option Bool} {dd_Unknown od_Unknown an_Unknown : Option Addr} {m0_Unknown m1_Unknown m2_Unknown m3_Unknown m5_Unknown : Option Value} {oc_Unknown kV_Unknown dc_Unknown pm_Unknown cd_Unknown ct_Unknown : Value} {sl_Unknown : Array (Option Value)}
    {A_Grammar : Addr}
    {sp_Grammar_usual : Addr} {sr_Grammar_usual : List Value}
    (l0 : K.lookup f0 = some ⟨oc0, od0, .func (PySem.W.fnOf "check_inner" "Grammar.check_inner" (defArgs s_Grammar_check_inner) (defBody s_Grammar_check_inner) (defScope s_Grammar_check_inner) .none kV0 dc0 pm0 an0 cd0 ct0), sl0⟩) (c0 : PySem.W.codeIn K cd0 "Grammar.check_inner" = true) (k0 : PySem.W.keepIn K (.ref f0) = true)
    (l1 : K.lookup f1 = some ⟨oc1, od1, .func (PySem.W.fnOf "__init__" "Grammar.__init__" (defArgs s_Grammar_init) (defBody s_Grammar_init) (defScope s_Grammar_init) .none kV1 dc1 pm1 an1 cd1 ct1), sl1⟩) (c1 : PySem.W.codeIn K cd1 "Grammar.__init__" = true) (k1 : PySem.W.keepIn K (.ref f1) = true)
    (l2 : K.lookup f2 = some ⟨oc2, od2, .func (PySem.W.fnOf "usual" "Grammar.usual" (defArgs s_Grammar_usual) (defBody s_Grammar_usual) (defScope s_Grammar_usual) .none kV2 dc2 pm2 an2 cd2 ct2), sl2⟩) (c2 : PySem.W.codeIn K cd2 "Grammar.usual" = true) (k2 : PySem.W.keepIn K (.ref f2) = true)
    (l3 : K.lookup f3 = some ⟨oc3, od3, .func (PySem.W.fnOf "__getitem__" "Grammar.__getitem__" (defArgs s_Grammar_getitem) (defBody s_Grammar_getitem) (defScope s_Grammar_getitem) .none kV3 dc3 pm3 an3 cd3 ct3), sl3⟩) (c3 : PySem.W.codeIn K cd3 "Grammar.__getitem__" = true) (k3 : PySem.W.keepIn K (.ref f3) = true)
    (l4 : K.lookup f4 = some ⟨oc4, od4, .func (PySem.W.fnOf "__contains__" "Grammar.__contains__" (defArgs s_Grammar_contains) (defBody s_Grammar_contains) (defScope s_Grammar_contains) .none kV4 dc4 pm4 an4 cd4 ct4), sl4⟩) (c4 : PySem.W.codeIn K cd4 "Grammar.__contains__" = true) (k4 : PySem.W.keepIn K (.ref f4) = true)
    (l5 : K.lookup f5 = some ⟨oc5, od5, .func (PySem.W.fnOf "__len__" "Grammar.__len__" (defArgs s_Grammar_len) (defBody s_Grammar_len) (defScope s_Grammar_len) .none kV5 dc5 pm5 an5 cd5 ct5), sl5⟩) (c5 : PySem.W.codeIn K cd5 "Grammar.__len__" = true) (k5 : PySem.W.keepIn K (.ref f5) = true)
    (a6 : PySem.W.nsIn K mainGlobals "_law_cell" = some (some (.ref f6)))
    (l6 : K.lookup f6 = some ⟨oc6, od6, .func (PySem.W.fnOf "_law_cell" "_law_cell" (defArgs s_l_cell) (defBody s_l_cell) (defScope s_l_cell) .none kV6 dc6 pm6 an6 cd6 ct6), sl6⟩) (c6 : PySem.W.codeIn K cd6 "_law_cell" = true) (k6 : PySem.W.keepIn K (.ref f6) = true)
    (a7 : PySem.W.nsIn K mainGlobals "_law_row" = some (some (.ref f7)))
    (l7 : K.lookup f7 = some ⟨oc7, od7, .func (PySem.W.fnOf "_law_row" "_law_row" (defArgs s_l_row) (defBody s_l_row) (defScope s_l_row) .none kV7 dc7 pm7 an7 cd7 ct7), sl7⟩) (c7 : PySem.W.codeIn K cd7 "_law_row" = true) (k7 : PySem.W.keepIn K (.ref f7) = true)
    (a8 : PySem.W.nsIn K mainGlobals "_law_same" = some (some (.ref f8)))
    (l8 : K.lookup f8 = some ⟨oc8, od8, .func (PySem.W.fnOf "_law_same" "_law_same" (defArgs s_l_same) (defBody s_l_same) (defScope s_l_same) .none kV8 dc8 pm8 an8 cd8 ct8), sl8⟩) (c8 : PySem.W.codeIn K cd8 "_law_same" = true) (k8 : PySem.W.keepIn K (.ref f8) = true)
    (a9 : PySem.W.nsIn K mainGlobals "_law_names" = some (some (.ref f9)))
    (l9 : K.lookup f9 = some ⟨oc9, od9, .func (PySem.W.fnOf "_law_names" "_law_names" (defArgs s_l_names) (defBody s_l_names) (defScope s_l_names) .none kV9 dc9 pm9 an9 cd9 ct9), sl9⟩) (c9 : PySem.W.codeIn K cd9 "_law_names" = true) (k9 : PySem.W.keepIn K (.ref f9) = true)
    (a10 : PySem.W.nsIn K mainGlobals "_law_kinds" = some (some (.ref f10)))
    (l10 : K.lookup f10 = some ⟨oc10, od10, .func (PySem.W.fnOf "_law_kinds" "_law_kinds" (defArgs s_l_kinds) (defBody s_l_kinds) (defScope s_l_kinds) .none kV10 dc10 pm10 an10 cd10 ct10), sl10⟩) (c10 : PySem.W.codeIn K cd10 "_law_kinds" = true) (k10 : PySem.W.keepIn K (.ref f10) = true)
    (a11 : PySem.W.nsIn K mainGlobals "_law_may" = some (some (.ref f11)))
    (l11 : K.lookup f11 = some ⟨oc11, od11, .func (PySem.W.fnOf "_law_may" "_law_may" (defArgs s_l_may) (defBody s_l_may) (defScope s_l_may) .none kV11 dc11 pm11 an11 cd11 ct11), sl11⟩) (c11 : PySem.W.codeIn K cd11 "_law_may" = true) (k11 : PySem.W.keepIn K (.ref f11) = true)
    (a12 : PySem.W.nsIn K mainGlobals "_law_grammar" = some (some (.ref f12)))
    (l12 : K.lookup f12 = some ⟨oc12, od12, .func (PySem.W.fnOf "_law_grammar" "_law_grammar" (defArgs s_l_grammar) (defBody s_l_grammar) (defScope s_l_grammar) .none kV12 dc12 pm12 an12 cd12 ct12), sl12⟩) (c12 : PySem.W.codeIn K cd12 "_law_grammar" = true) (k12 : PySem.W.keepIn K (.ref f12) = true)
    (a13 : PySem.W.nsIn K mainGlobals "_law_error" = some (some (.ref f13)))
    (l13 : K.lookup f13 = some ⟨oc13, od13, .func (PySem.W.fnOf "_law_error" "_law_error" (defArgs s_l_error) (defBody s_l_error) (defScope s_l_error) .none kV13 dc13 pm13 an13 cd13 ct13), sl13⟩) (c13 : PySem.W.codeIn K cd13 "_law_error" = true) (k13 : PySem.W.keepIn K (.ref f13) = true)
    (a14 : PySem.W.nsIn K mainGlobals "_law_due" = some (some (.ref f14)))
    (l14 : K.lookup f14 = some ⟨oc14, od14, .func (PySem.W.fnOf "_law_due" "_law_due" (defArgs s_l_due) (defBody s_l_due) (defScope s_l_due) .none kV14 dc14 pm14 an14 cd14 ct14), sl14⟩) (c14 : PySem.W.codeIn K cd14 "_law_due" = true) (k14 : PySem.W.keepIn K (.ref f14) = true)
    (a15 : PySem.W.nsIn K mainGlobals "_law_tells" = some (some (.ref f15)))
    (l15 : K.lookup f15 = some ⟨oc15, od15, .func (PySem.W.fnOf "_law_tells" "_law_tells" (defArgs s_l_tells) (defBody s_l_tells) (defScope s_l_tells) .none kV15 dc15 pm15 an15 cd15 ct15), sl15⟩) (c15 : PySem.W.codeIn K cd15 "_law_tells" = true) (k15 : PySem.W.keepIn K (.ref f15) = true)
    (a16 : PySem.W.nsIn K mainGlobals "_law_asked" = some (some (.ref f16)))
    (l16 : K.lookup f16 = some ⟨oc16, od16, .func (PySem.W.fnOf "_law_asked" "_law_asked" (defArgs s_l_asked) (defBody s_l_asked) (defScope s_l_asked) .none kV16 dc16 pm16 an16 cd16 ct16), sl16⟩) (c16 : PySem.W.codeIn K cd16 "_law_asked" = true) (k16 : PySem.W.keepIn K (.ref f16) = true)
    (a17 : PySem.W.nsIn K mainGlobals "_law_put" = some (some (.ref f17)))
    (l17 : K.lookup f17 = some ⟨oc17, od17, .func (PySem.W.fnOf "_law_put" "_law_put" (defArgs s_l_put) (defBody s_l_put) (defScope s_l_put) .none kV17 dc17 pm17 an17 cd17 ct17), sl17⟩) (c17 : PySem.W.codeIn K cd17 "_law_put" = true) (k17 : PySem.W.keepIn K (.ref f17) = true)
    (a18 : PySem.W.nsIn K mainGlobals "_law_changed" = some (some (.ref f18)))
    (l18 : K.lookup f18 = some ⟨oc18, od18, .func (PySem.W.fnOf "_law_changed" "_law_changed" (defArgs s_l_changed) (defBody s_l_changed) (defScope s_l_changed) .none kV18 dc18 pm18 an18 cd18 ct18), sl18⟩) (c18 : PySem.W.codeIn K cd18 "_law_changed" = true) (k18 : PySem.W.keepIn K (.ref f18) = true)
    (a19 : PySem.W.nsIn K mainGlobals "law" = some (some (.ref f19)))
    (l19 : K.lookup f19 = some ⟨oc19, od19, .func (PySem.W.fnOf "law" "law" (defArgs s_law) (defBody s_law) (defScope s_law) .none kV19 dc19 pm19 an19 cd19 ct19), sl19⟩) (c19 : PySem.W.codeIn K cd19 "law" = true) (k19 : PySem.W.keepIn K (.ref f19) = true)
    (l20 : K.lookup f20 = some ⟨oc20, od20, .func (PySem.W.fnOf "__iter__" "Grammar.__iter__" (defArgs s_Grammar_iter) (defBody s_Grammar_iter) (defScope s_Grammar_iter) .none kV20 dc20 pm20 an20 cd20 ct20), sl20⟩) (c20 : PySem.W.codeIn K cd20 "Grammar.__iter__" = true) (k20 : PySem.W.keepIn K (.ref f20) = true)
    (z_ValueError : PySem.W.nsIn K mainGlobals "ValueError" = some none)
    (z_bool : PySem.W.nsIn K mainGlobals "bool" = some none)
    (z_int : PySem.W.nsIn K mainGlobals "int" = some none)
    (z_isinstance : PySem.W.nsIn K mainGlobals "isinstance" = some none)
    (z_iter : PySem.W.nsIn K mainGlobals "iter" = some none)
    (z_len : PySem.W.nsIn K mainGlobals "len" = some none)
    (z_list : PySem.W.nsIn K mainGlobals "list" = some none)
    (z_max : PySem.W.nsIn K mainGlobals "max" = some none)
    (z_range : PySem.W.nsIn K mainGlobals "range" = some none)
    (z_str : PySem.W.nsIn K mainGlobals "str" = some none)
    (z_sum : PySem.W.nsIn K mainGlobals "sum" = some none)
    (z_tuple : PySem.W.nsIn K mainGlobals "tuple" = some none)
    (y_INNER_ROLES : PySem.W.nsIn K mainGlobals "INNER_ROLES" = some (some (.ref kA_INNER_ROLES_0)))
    (kl_INNER_ROLES_1 : K.lookup kA_INNER_ROLES_1 = some ⟨.type "tuple", kod_INNER_ROLES_1, .seq #[.str "block" kt_INNER_ROLES_1_0, .str "head" kt_INNER_ROLES_1_1] kn_INNER_ROLES_1, ksl_INNER_ROLES_1⟩)
    (kl_INNER_ROLES_2 : K.lookup kA_INNER_ROLES_2 = some ⟨.type "tuple", kod_INNER_ROLES_2, .seq #[.str "span" kt_INNER_ROLES_2_0, .str "note" kt_INNER_ROLES_2_1, .str "figure" kt_INNER_ROLES_2_2, .str "ref" kt_INNER_ROLES_2_3] kn_INNER_ROLES_2, ksl_INNER_ROLES_2⟩)
    (kl_INNER_ROLES_3 : K.lookup kA_INNER_ROLES_3 = some ⟨.type "tuple", kod_INNER_ROLES_3, .seq #[.str "span" kt_INNER_ROLES_3_0, .str "ref" kt_INNER_ROLES_3_1] kn_INNER_ROLES_3, ksl_INNER_ROLES_3⟩)
    (kl_INNER_ROLES_4 : K.lookup kA_INNER_ROLES_4 = some ⟨.type "tuple", kod_INNER_ROLES_4, .seq #[.str "span" kt_INNER_ROLES_4_0, .str "ref" kt_INNER_ROLES_4_1] kn_INNER_ROLES_4, ksl_INNER_ROLES_4⟩)
    (kl_INNER_ROLES_5 : K.lookup kA_INNER_ROLES_5 = some ⟨.type "tuple", kod_INNER_ROLES_5, .seq #[.str "span" kt_INNER_ROLES_5_0] kn_INNER_ROLES_5, ksl_INNER_ROLES_5⟩)
    (kl_INNER_ROLES_6 : K.lookup kA_INNER_ROLES_6 = some ⟨.type "tuple", kod_INNER_ROLES_6, .seq #[.str "span" kt_INNER_ROLES_6_0] kn_INNER_ROLES_6, ksl_INNER_ROLES_6⟩)
    (kl_INNER_ROLES_7 : K.lookup kA_INNER_ROLES_7 = some ⟨.type "tuple", kod_INNER_ROLES_7, .seq #[] kn_INNER_ROLES_7, ksl_INNER_ROLES_7⟩)
    (kl_INNER_ROLES_0 : K.lookup kA_INNER_ROLES_0 = some ⟨.type "dict", none, .dict #[⟨kh_INNER_ROLES_0, .str "root" kt_INNER_ROLES_0, .ref kA_INNER_ROLES_1⟩, ⟨kh_INNER_ROLES_1, .str "block" kt_INNER_ROLES_1, .ref kA_INNER_ROLES_2⟩, ⟨kh_INNER_ROLES_2, .str "head" kt_INNER_ROLES_2, .ref kA_INNER_ROLES_3⟩, ⟨kh_INNER_ROLES_3, .str "span" kt_INNER_ROLES_3, .ref kA_INNER_ROLES_4⟩, ⟨kh_INNER_ROLES_4, .str "note" kt_INNER_ROLES_4, .ref kA_INNER_ROLES_5⟩, ⟨kh_INNER_ROLES_5, .str "figure" kt_INNER_ROLES_5, .ref kA_INNER_ROLES_6⟩, ⟨kh_INNER_ROLES_6, .str "ref" kt_INNER_ROLES_6, .ref kA_INNER_ROLES_7⟩] kn_INNER_ROLES_0, #[]⟩)
    (kk_INNER_ROLES : PySem.W.KeysLit w.params [⟨kh_INNER_ROLES_0, .str "root" kt_INNER_ROLES_0, .ref kA_INNER_ROLES_1⟩, ⟨kh_INNER_ROLES_1, .str "block" kt_INNER_ROLES_1, .ref kA_INNER_ROLES_2⟩, ⟨kh_INNER_ROLES_2, .str "head" kt_INNER_ROLES_2, .ref kA_INNER_ROLES_3⟩, ⟨kh_INNER_ROLES_3, .str "span" kt_INNER_ROLES_3, .ref kA_INNER_ROLES_4⟩, ⟨kh_INNER_ROLES_4, .str "note" kt_INNER_ROLES_4, .ref kA_INNER_ROLES_5⟩, ⟨kh_INNER_ROLES_5, .str "figure" kt_INNER_ROLES_5, .ref kA_INNER_ROLES_6⟩, ⟨kh_INNER_ROLES_6, .str "ref" kt_INNER_ROLES_6, .ref kA_INNER_ROLES_7⟩])
    (km_INNER_ROLES : (kA_INNER_ROLES_0 == sysModules) = false)
    (x_LaidError : PySem.W.nsIn K mainGlobals "LaidError" = some (some (.ref A_LaidError)))
    (x_Misfit : PySem.W.nsIn K mainGlobals "Misfit" = some (some (.ref A_Misfit)))
    (x_Strange : PySem.W.nsIn K mainGlobals "Strange" = some (some (.ref A_Strange)))
    (x_Taken : PySem.W.nsIn K mainGlobals "Taken" = some (some (.ref A_Taken)))
    (x_Unknown : PySem.W.nsIn K mainGlobals "Unknown" = some (some (.ref A_Unknown)))
    (X1_Misfit : K.lookup A_Misfit = some (excClassObj nm_Misfit qq_Misfit A_Misfit N_Misfit bs_Misfit bm_Misfit true sn_Misfit sb_Misfit ab_Misfit co_Misfit dd_Misfit m0_Misfit m1_Misfit m2_Misfit m3_Misfit m5_Misfit "ValueError.__new__")) (X2_Misfit : PySem.HandSPX.refsVE bm_Misfit = true)
    (X3_Misfit : PySem.W.findIn K (.ref A_Misfit) "__setattr__" = some (some (.builtin "object.__setattr__"))) (X4_Misfit : PySem.W.subIn K (.ref A_Misfit) (.type "BaseException") = some true) (X5_Misfit : PySem.W.typeIn K (.ref A_Misfit) = some (.type "type")) (X6_Misfit : PySem.W.keepIn K (.ref A_Misfit) = true)
    (X7_Misfit : PySem.W.findIn K (.ref A_Misfit) "__init__" = some (some (.ref fI_Misfit))) (X8_Misfit : PySem.W.typeIn K (.ref fI_Misfit) = some (.type "function")) (X9_Misfit : K.lookup fI_Misfit = some ⟨oc_Misfit, od_Misfit, .func (PySem.W.fnOf "__init__" "Misfit.__init__" (defArgs s_Misfit) (defBody s_Misfit) (defScope s_Misfit) .none kV_Misfit dc_Misfit pm_Misfit an_Misfit cd_Misfit ct_Misfit), sl_Misfit⟩) (Xa_Misfit : PySem.W.codeIn K cd_Misfit "Misfit.__init__" = true) (Xb_Misfit : PySem.W.keepIn K (.ref fI_Misfit) = true)
    (Y0_Misfit : PySem.W.findIn K (.ref A_Misfit) "kind" = some none)
    (Xc_Misfit : PySem.W.findIn K (.ref A_Misfit) "__getattribute__" = some (some (.builtin "BaseException.__getattribute__"))) (Xd_Misfit : PySem.W.findIn K (.ref A_Misfit) "__getattr__" = some none) (Xe_Misfit : PySem.W.hasDictIn K A_Misfit = true)
    (Xf_Misfit : PySem.W.findIn K (.ref A_Misfit) "__class__" = some (some (.builtin "object.__class__"))) (Xg_Misfit : PySem.W.specialIn K (.builtin "object.__class__") "__get__" = some (some (.builtin "getset_descriptor.__get__"))) (Xh_Misfit : PySem.W.takesIn K (.builtin "object.__class__") = some true) (Xi_Misfit : PySem.W.mroIn K A_Misfit (.type "object") = some true)
    (E_Misfit_LaidError : PySem.W.exmOne K (.ref A_Misfit) (.ref A_LaidError) = some true)
    (Q_Misfit_Misfit : PySem.W.kitOne K (.ref A_Misfit) (.ref A_Misfit) = some true)
    (Q_Misfit_Strange : PySem.W.kitOne K (.ref A_Misfit) (.ref A_Strange) = some false)
    (Q_Misfit_Taken : PySem.W.kitOne K (.ref A_Misfit) (.ref A_Taken) = some false)
    (Q_Misfit_Unknown : PySem.W.kitOne K (.ref A_Misfit) (.ref A_Unknown) = some false)
    (Q_Misfit_ValueError : PySem.W.kitOne K (.ref A_Misfit) (.type "ValueError") = some true)
    (X1_Taken : K.lookup A_Taken = some (excClassObj nm_Taken qq_Taken A_Taken N_Taken bs_Taken bm_Taken true sn_Taken sb_Taken ab_Taken co_Taken dd_Taken m0_Taken m1_Taken m2_Taken m3_Taken m5_Taken "ValueError.__new__")) (X2_Taken : PySem.HandSPX.refsVE bm_Taken = true)
    (X3_Taken : PySem.W.findIn K (.ref A_Taken) "__setattr__" = some (some (.builtin "object.__setattr__"))) (X4_Taken : PySem.W.subIn K (.ref A_Taken) (.type "BaseException") = some true) (X5_Taken : PySem.W.typeIn K (.ref A_Taken) = some (.type "type")) (X6_Taken : PySem.W.keepIn K (.ref A_Taken) = true)
    (X7_Taken : PySem.W.findIn K (.ref A_Taken) "__init__" = some (some (.ref fI_Taken))) (X8_Taken : PySem.W.typeIn K (.ref fI_Taken) = some (.type "function")) (X9_Taken : K.lookup fI_Taken = some ⟨oc_Taken, od_Taken, .func (PySem.W.fnOf "__init__" "Taken.__init__" (defArgs s_Taken) (defBody s_Taken) (defScope s_Taken) .none kV_Taken dc_Taken pm_Taken an_Taken cd_Taken ct_Taken), sl_Taken⟩) (Xa_Taken : PySem.W.codeIn K cd_Taken "Taken.__init__" = true) (Xb_Taken : PySem.W.keepIn K (.ref fI_Taken) = true)
    (Y0_Taken : PySem.W.findIn K (.ref A_Taken) "kind" = some none)
    (Xc_Taken : PySem.W.findIn K (.ref A_Taken) "__getattribute__" = some (some (.builtin "BaseException.__getattribute__"))) (Xd_Taken : PySem.W.findIn K (.ref A_Taken) "__getattr__" = some none) (Xe_Taken : PySem.W.hasDictIn K A_Taken = true)
    (Xf_Taken : PySem.W.findIn K (.ref A_Taken) "__class__" = some (some (.builtin "object.__class__"))) (Xg_Taken : PySem.W.specialIn K (.builtin "object.__class__") "__get__" = some (some (.builtin "getset_descriptor.__get__"))) (Xh_Taken : PySem.W.takesIn K (.builtin "object.__class__") = some true) (Xi_Taken : PySem.W.mroIn K A_Taken (.type "object") = some true)
    (E_Taken_LaidError : PySem.W.exmOne K (.ref A_Taken) (.ref A_LaidError) = some true)
    (Q_Taken_Misfit : PySem.W.kitOne K (.ref A_Taken) (.ref A_Misfit) = some false)
    (Q_Taken_Strange : PySem.W.kitOne K (.ref A_Taken) (.ref A_Strange) = some false)
    (Q_Taken_Taken : PySem.W.kitOne K (.ref A_Taken) (.ref A_Taken) = some true)
    (Q_Taken_Unknown : PySem.W.kitOne K (.ref A_Taken) (.ref A_Unknown) = some false)
    (Q_Taken_ValueError : PySem.W.kitOne K (.ref A_Taken) (.type "ValueError") = some true)
    (X1_Unknown : K.lookup A_Unknown = some (excClassObj nm_Unknown qq_Unknown A_Unknown N_Unknown bs_Unknown bm_Unknown true sn_Unknown sb_Unknown ab_Unknown co_Unknown dd_Unknown m0_Unknown m1_Unknown m2_Unknown m3_Unknown m5_Unknown "ValueError.__new__")) (X2_Unknown : PySem.HandSPX.refsVE bm_Unknown = true)
    (X3_Unknown : PySem.W.findIn K (.ref A_Unknown) "__setattr__" = some (some (.builtin "object.__setattr__"))) (X4_Unknown : PySem.W.subIn K (.ref A_Unknown) (.type "BaseException") = some true) (X5_Unknown : PySem.W.typeIn K (.ref A_Unknown) = some (.type "type")) (X6_Unknown : PySem.W.keepIn K (.ref A_Unknown) = true)
    (X7_Unknown : PySem.W.findIn K (.ref A_Unknown) "__init__" = some (some (.ref fI_Unknown))) (X8_Unknown : PySem.W.typeIn K (.ref fI_Unknown) = some (.type "function")) (X9_Unknown : K.lookup fI_Unknown = some ⟨oc_Unknown, od_Unknown, .func (PySem.W.fnOf "__init__" "Unknown.__init__" (defArgs s_Unknown) (defBody s_Unknown) (defScope s_Unknown) .none kV_Unknown dc_Unknown pm_Unknown an_Unknown cd_Unknown ct_Unknown), sl_Unknown⟩) (Xa_Unknown : PySem.W.codeIn K cd_Unknown "Unknown.__init__" = true) (Xb_Unknown : PySem.W.keepIn K (.ref fI_Unknown) = true)
    (Y0_Unknown : PySem.W.findIn K (.ref A_Unknown) "kind" = some none)
    (Xc_Unknown : PySem.W.findIn K (.ref A_Unknown) "__getattribute__" = some (some (.builtin "BaseException.__getattribute__"))) (Xd_Unknown : PySem.W.findIn K (.ref A_Unknown) "__getattr__" = some none) (Xe_Unknown : PySem.W.hasDictIn K A_Unknown = true)
    (Xf_Unknown : PySem.W.findIn K (.ref A_Unknown) "__class__" = some (some (.builtin "object.__class__"))) (Xg_Unknown : PySem.W.specialIn K (.builtin "object.__class__") "__get__" = some (some (.builtin "getset_descriptor.__get__"))) (Xh_Unknown : PySem.W.takesIn K (.builtin "object.__class__") = some true) (Xi_Unknown : PySem.W.mroIn K A_Unknown (.type "object") = some true)
    (E_Unknown_LaidError : PySem.W.exmOne K (.ref A_Unknown) (.ref A_LaidError) = some true)
    (Q_Unknown_Misfit : PySem.W.kitOne K (.ref A_Unknown) (.ref A_Misfit) = some false)
    (Q_Unknown_Strange : PySem.W.kitOne K (.ref A_Unknown) (.ref A_Strange) = some false)
    (Q_Unknown_Taken : PySem.W.kitOne K (.ref A_Unknown) (.ref A_Taken) = some false)
    (Q_Unknown_Unknown : PySem.W.kitOne K (.ref A_Unknown) (.ref A_Unknown) = some true)
    (Q_Unknown_ValueError : PySem.W.kitOne K (.ref A_Unknown) (.type "ValueError") = some true)
    (x_Grammar : PySem.W.nsIn K mainGlobals "Grammar" = some (some (.ref A_Grammar))) (P1_Grammar : PySem.W.plainGet K A_Grammar Str.empty = true) (P2_Grammar : PySem.W.hasDictIn K A_Grammar = true) (P3_Grammar : PySem.W.plainOver K A_Grammar = true) (P4_Grammar : PySem.W.findIn K (.ref A_Grammar) "__setattr__" = some (some (.builtin "object.__setattr__")))
    (M1_Grammar : PySem.W.makesIn K A_Grammar = true) (M2_Grammar : PySem.W.findIn K (.ref A_Grammar) "__init__" = some (some (.ref f1))) (M3_Grammar : PySem.W.isFn K (.ref f1) = true) (M4_Grammar : PySem.W.keepIn K (.ref A_Grammar) = true)
    (N_Grammar_entries : PySem.W.findIn K (.ref A_Grammar) "entries" = some none)
    (N_Grammar_order : PySem.W.findIn K (.ref A_Grammar) "order" = some none)
    (N_Grammar_root : PySem.W.findIn K (.ref A_Grammar) "root" = some none)
    (m1_Grammar___contains__ : PySem.W.findIn K (.ref A_Grammar) "__contains__" = some (some (.ref f4))) (m2_Grammar___contains__ : PySem.W.isFn K (.ref f4) = true)
    (m1_Grammar___getitem__ : PySem.W.findIn K (.ref A_Grammar) "__getitem__" = some (some (.ref f3))) (m2_Grammar___getitem__ : PySem.W.isFn K (.ref f3) = true)
    (m1_Grammar___iter__ : PySem.W.findIn K (.ref A_Grammar) "__iter__" = some (some (.ref f20))) (m2_Grammar___iter__ : PySem.W.isFn K (.ref f20) = true)
    (m1_Grammar___len__ : PySem.W.findIn K (.ref A_Grammar) "__len__" = some (some (.ref f5))) (m2_Grammar___len__ : PySem.W.isFn K (.ref f5) = true)
    (m1_Grammar_check_inner : PySem.W.findIn K (.ref A_Grammar) "check_inner" = some (some (.ref f0))) (m2_Grammar_check_inner : PySem.W.isFn K (.ref f0) = true)
    (R1_Grammar : PySem.W.readsIn K A_Grammar (.type "type") = true) (R2_Grammar : PySem.W.specialIn K (.ref A_Grammar) "__getattribute__" = some (some (.builtin "type.__getattribute__")))
    (S1_Grammar_usual : PySem.W.findCls K (.ref A_Grammar) (.type "type") "usual" = some (.get (.builtin "staticmethod.__get__") (.ref sp_Grammar_usual) .none (.ref A_Grammar))) (S2_Grammar_usual : PySem.W.recIn K sp_Grammar_usual "staticmethod" = some (.ref f2 :: sr_Grammar_usual)) :
    ∃ fd : FuncData, (∀ (s : Shared) (v : Value), BindsTo s fd ⟨[v], []⟩ [("_law_script", v)]) ∧ ∀ base : Heap, K.In base → base.Ns mainGlobals mg → FnOk l.prog w K mg base (L2N.CX l.prog w) 8 fa fd ["_law_script"] (spLaw K) := by
  have e := hfa.symm.trans (PySem.W.mg_of X G a19)
  cases e
  obtain ⟨T, e1, e2⟩ := txt_mk X G l0 c0 k0 l1 c1 k1 l2 c2 k2 l3 c3 k3 l4 c4 k4 l5 c5 k5 a6 l6 c6 k6 a7 l7 c7 k7 a8 l8 c8 k8 a9 l9 c9 k9 a10 l10 c10 k10 a11 l11 c11 k11 a12 l12 c12 k12 a13 l13 c13 k13 a14 l14 c14 k14 a15 l15 c15 k15 a16 l16 c16 k16 a17 l17 c17 k17 a18 l18 c18 k18 a19 l19 c19 k19 l20 c20 k20 z_ValueError z_bool z_int z_isinstance z_iter z_len z_list z_max z_range z_str z_sum z_tuple y_INNER_ROLES kl_INNER_ROLES_1 kl_INNER_ROLES_2 kl_INNER_ROLES_3 kl_INNER_ROLES_4 kl_INNER_ROLES_5 kl_INNER_ROLES_6 kl_INNER_ROLES_7 kl_INNER_ROLES_0 kk_INNER_ROLES km_INNER_ROLES x_LaidError x_Misfit x_Strange x_Taken x_Unknown X1_Misfit X2_Misfit X3_Misfit X4_Misfit X5_Misfit X6_Misfit X7_Misfit X8_Misfit X9_Misfit Xa_Misfit Xb_Misfit Y0_Misfit Xc_Misfit Xd_Misfit Xe_Misfit Xf_Misfit Xg_Misfit Xh_Misfit Xi_Misfit E_Misfit_LaidError Q_Misfit_Misfit Q_Misfit_Strange Q_Misfit_Taken Q_Misfit_Unknown Q_Misfit_ValueError X1_Taken X2_Taken X3_Taken X4_Taken X5_Taken X6_Taken X7_Taken X8_Taken X9_Taken Xa_Taken Xb_Taken Y0_Taken Xc_Taken Xd_Taken Xe_Taken Xf_Taken Xg_Taken Xh_Taken Xi_Taken E_Taken_LaidError Q_Taken_Misfit Q_Taken_Strange Q_Taken_Taken Q_Taken_Unknown Q_Taken_ValueError X1_Unknown X2_Unknown X3_Unknown X4_Unknown X5_Unknown X6_Unknown X7_Unknown X8_Unknown X9_Unknown Xa_Unknown Xb_Unknown Y0_Unknown Xc_Unknown Xd_Unknown Xe_Unknown Xf_Unknown Xg_Unknown Xh_Unknown Xi_Unknown E_Unknown_LaidError Q_Unknown_Misfit Q_Unknown_Strange Q_Unknown_Taken Q_Unknown_Unknown Q_Unknown_ValueError x_Grammar P1_Grammar P2_Grammar P3_Grammar P4_Grammar M1_Grammar M2_Grammar M3_Grammar M4_Grammar N_Grammar_entries N_Grammar_order N_Grammar_root m1_Grammar___contains__ m2_Grammar___contains__ m1_Grammar___getitem__ m2_Grammar___getitem__ m1_Grammar___iter__ m2_Grammar___iter__ m1_Grammar___len__ m2_Grammar___len__ m1_Grammar_check_inner m2_Grammar_check_inner R1_Grammar R2_Grammar S1_Grammar_usual S2_Grammar_usual
  refine ⟨PySem.W.fnOf "law" "law" (defArgs s_law) (defBody s_law) (defScope s_law) .none kV19 dc19 pm19 an19 cd19 ct19, fun s v => .of_eq rfl, fun base _ _ => ?_⟩
  have z := ok_end (P := l.prog) (w := w) (base := base) T
  rw [e1, e2] at z
  exact z
end Lk
end S_P_end
section S_P_top
set_option Elab.async false
set_option linter.all false
open PySem PySem.W PyProof.Rows
set_option maxRecDepth 100000 in
set_option maxHeartbeats 0 in
theorem PySem.Challenge.cw_laidforall_k05_grammars_holds : PySem.Challenge.rw_laidforall_k05_grammars.Holds := by
  w_on; o_law; k_head; (case hw => w_witness2)
  k_fill
  refine L2.walk_of (l := PySem.Challenge.rw_laidforall_k05_grammars) (n := 63) (k := 8) (x := "_law_script") (CX := fun w => L2N.CX PySem.Challenge.rw_laidforall_k05_grammars.prog w) (sp := fun w => Lk.spLaw _) rfl (by decide) rfl ⟨rfl, by decide, by decide⟩ (fun w h Y => PySem.W.kIn_of Y) ?F (fun _ _ a ns hl _ hS => ⟨a, ns, rfl, hS, hl, fun _ => rfl⟩) (fun _ _ _ _ _ h => Dx.cx_never h)
  case F =>
    intro w mg fa h KX G hmg
    refine' Lk.all_mk KX G hmg ?l0 ?c0 ?k0 ?l1 ?c1 ?k1 ?l2 ?c2 ?k2 ?l3 ?c3 ?k3 ?l4 ?c4 ?k4 ?l5 ?c5 ?k5 ?a6 ?l6 ?c6 ?k6 ?a7 ?l7 ?c7 ?k7 ?a8 ?l8 ?c8 ?k8 ?a9 ?l9 ?c9 ?k9 ?a10 ?l10 ?c10 ?k10 ?a11 ?l11 ?c11 ?k11 ?a12 ?l12 ?c12 ?k12 ?a13 ?l13 ?c13 ?k13 ?a14 ?l14 ?c14 ?k14 ?a15 ?l15 ?c15 ?k15 ?a16 ?l16 ?c16 ?k16 ?a17 ?l17 ?c17 ?k17 ?a18 ?l18 ?c18 ?k18 ?a19 ?l19 ?c19 ?k19 ?l20 ?c20 ?k20 ?z_ValueError ?z_bool ?z_int ?z_isinstance ?z_iter ?z_len ?z_list ?z_max ?z_range ?z_str ?z_sum ?z_tuple ?y_INNER_ROLES ?kl_INNER_ROLES_1 ?kl_INNER_ROLES_2 ?kl_INNER_ROLES_3 ?kl_INNER_ROLES_4 ?kl_INNER_ROLES_5 ?kl_INNER_ROLES_6 ?kl_INNER_ROLES_7 ?kl_INNER_ROLES_0 ?kk_INNER_ROLES ?km_INNER_ROLES ?x_LaidError ?x_Misfit ?x_Strange ?x_Taken ?x_Unknown ?X1_Misfit ?X2_Misfit ?X3_Misfit ?X4_Misfit ?X5_Misfit ?X6_Misfit ?X7_Misfit ?X8_Misfit ?X9_Misfit ?Xa_Misfit ?Xb_Misfit ?Y0_Misfit ?Xc_Misfit ?Xd_Misfit ?Xe_Misfit ?Xf_Misfit ?Xg_Misfit ?Xh_Misfit ?Xi_Misfit ?E_Misfit_LaidError ?Q_Misfit_Misfit ?Q_Misfit_Strange ?Q_Misfit_Taken ?Q_Misfit_Unknown ?Q_Misfit_ValueError ?X1_Taken ?X2_Taken ?X3_Taken ?X4_Taken ?X5_Taken ?X6_Taken ?X7_Taken ?X8_Taken ?X9_Taken ?Xa_Taken ?Xb_Taken ?Y0_Taken ?Xc_Taken ?Xd_Taken ?Xe_Taken ?Xf_Taken ?Xg_Taken ?Xh_Taken ?Xi_Taken ?E_Taken_LaidError ?Q_Taken_Misfit ?Q_Taken_Strange ?Q_Taken_Taken ?Q_Taken_Unknown ?Q_Taken_ValueError ?X1_Unknown ?X2_Unknown ?X3_Unknown ?X4_Unknown ?X5_Unknown ?X6_Unknown ?X7_Unknown ?X8_Unknown ?X9_Unknown ?Xa_Unknown ?Xb_Unknown ?Y0_Unknown ?Xc_Unknown ?Xd_Unknown ?Xe_Unknown ?Xf_Unknown ?Xg_Unknown ?Xh_Unknown ?Xi_Unknown ?E_Unknown_LaidError ?Q_Unknown_Misfit ?Q_Unknown_Strange ?Q_Unknown_Taken ?Q_Unknown_Unknown ?Q_Unknown_ValueError ?x_Grammar ?P1_Grammar ?P2_Grammar ?P3_Grammar ?P4_Grammar ?M1_Grammar ?M2_Grammar ?M3_Grammar ?M4_Grammar ?N_Grammar_entries ?N_Grammar_order ?N_Grammar_root ?m1_Grammar___contains__ ?m2_Grammar___contains__ ?m1_Grammar___getitem__ ?m2_Grammar___getitem__ ?m1_Grammar___iter__ ?m2_Grammar___iter__ ?m1_Grammar___len__ ?m2_Grammar___len__ ?m1_Grammar_check_inner ?m2_Grammar_check_inner ?R1_Grammar ?R2_Grammar ?S1_Grammar_usual ?S2_Grammar_usual
    (case y_INNER_ROLES => k_is)
    (case x_LaidError => k_is)
    (case x_Misfit => k_is)
    (case x_Strange => k_is)
    (case x_Taken => k_is)
    (case x_Unknown => k_is)
    (case x_Grammar => k_is)
    (case kl_INNER_ROLES_0 => k_is)
    (case kl_INNER_ROLES_1 => k_is)
    (case kl_INNER_ROLES_2 => k_is)
    (case kl_INNER_ROLES_3 => k_is)
    (case kl_INNER_ROLES_4 => k_is)
    (case kl_INNER_ROLES_5 => k_is)
    (case kl_INNER_ROLES_6 => k_is)
    (case kl_INNER_ROLES_7 => k_is)
    (case M2_Grammar => k_is)
    (case m1_Grammar___contains__ => k_is)
    (case m1_Grammar___getitem__ => k_is)
    (case m1_Grammar___iter__ => k_is)
    (case m1_Grammar___len__ => k_is)
    (case m1_Grammar_check_inner => k_is)
    (case S1_Grammar_usual => k_is)
    (case S2_Grammar_usual => k_is)
    (case l0 => k_is)
    (case c0 => k_is)
    (case k0 => k_is)
    (case l1 => k_is)
    (case c1 => k_is)
    (case k1 => k_is)
    (case l2 => k_is)
    (case c2 => k_is)
    (case k2 => k_is)
    (case l3 => k_is)
    (case c3 => k_is)
    (case k3 => k_is)
    (case l4 => k_is)
    (case c4 => k_is)
    (case k4 => k_is)
    (case l5 => k_is)
    (case c5 => k_is)
    (case k5 => k_is)
    (case a6 => k_is)
    (case l6 => k_is)
    (case c6 => k_is)
    (case k6 => k_is)
    (case a7 => k_is)
    (case l7 => k_is)
    (case c7 => k_is)
    (case k7 => k_is)
    (case a8 => k_is)
    (case l8 => k_is)
    (case c8 => k_is)
    (case k8 => k_is)
    (case a9 => k_is)
    (case l9 => k_is)
    (case c9 => k_is)
    (case k9 => k_is)
    (case a10 => k_is)
    (case l10 => k_is)
    (case c10 => k_is)
    (case k10 => k_is)
    (case a11 => k_is)
    (case l11 => k_is)
    (case c11 => k_is)
    (case k11 => k_is)
    (case a12 => k_is)
    (case l12 => k_is)
    (case c12 => k_is)
    (case k12 => k_is)
    (case a13 => k_is)
    (case l13 => k_is)
    (case c13 => k_is)
    (case k13 => k_is)
    (case a14 => k_is)
    (case l14 => k_is)
    (case c14 => k_is)
    (case k14 => k_is)
    (case a15 => k_is)
    (case l15 => k_is)
    (case c15 => k_is)
    (case k15 => k_is)
    (case a16 => k_is)
    (case l16 => k_is)
    (case c16 => k_is)
    (case k16 => k_is)
    (case a17 => k_is)
    (case l17 => k_is)
    (case c17 => k_is)
    (case k17 => k_is)
    (case a18 => k_is)
    (case l18 => k_is)
    (case c18 => k_is)
    (case k18 => k_is)
    (case a19 => k_is)
    (case l19 => k_is)
    (case c19 => k_is)
    (case k19 => k_is)
    (case l20 => k_is)
    (case c20 => k_is)
    (case k20 => k_is)
    (case z_ValueError => k_is)
    (case z_bool => k_is)
    (case z_int => k_is)
    (case z_isinstance => k_is)
    (case z_iter => k_is)
    (case z_len => k_is)
    (case z_list => k_is)
    (case z_max => k_is)
    (case z_range => k_is)
    (case z_str => k_is)
    (case z_sum => k_is)
    (case z_tuple => k_is)
    (case kk_INNER_ROLES => k_keys)
    (case km_INNER_ROLES => decide)
    (case X1_Misfit => k_is)
    (case X2_Misfit => decide +kernel)
    (case X3_Misfit => k_is)
    (case X4_Misfit => k_is)
    (case X5_Misfit => k_is)
    (case X6_Misfit => k_is)
    (case X7_Misfit => k_is)
    (case X8_Misfit => k_is)
    (case X9_Misfit => k_is)
    (case Xa_Misfit => k_is)
    (case Xb_Misfit => k_is)
    (case Y0_Misfit => k_is)
    (case Xc_Misfit => k_is)
    (case Xd_Misfit => k_is)
    (case Xe_Misfit => k_is)
    (case Xf_Misfit => k_is)
    (case Xg_Misfit => k_is)
    (case Xh_Misfit => k_is)
    (case Xi_Misfit => k_is)
    (case E_Misfit_LaidError => first | k_is | rfl | decide +kernel)
    (case Q_Misfit_Misfit => first | k_is | rfl | decide +kernel)
    (case Q_Misfit_Strange => first | k_is | rfl | decide +kernel)
    (case Q_Misfit_Taken => first | k_is | rfl | decide +kernel)
    (case Q_Misfit_Unknown => first | k_is | rfl | decide +kernel)
    (case Q_Misfit_ValueError => first | k_is | rfl | decide +kernel)
    (case X1_Taken => k_is)
    (case X2_Taken => decide +kernel)
    (case X3_Taken => k_is)
    (case X4_Taken => k_is)
    (case X5_Taken => k_is)
    (case X6_Taken => k_is)
    (case X7_Taken => k_is)
    (case X8_Taken => k_is)
    (case X9_Taken => k_is)
    (case Xa_Taken => k_is)
    (case Xb_Taken => k_is)
    (case Y0_Taken => k_is)
    (case Xc_Taken => k_is)
    (case Xd_Taken => k_is)
    (case Xe_Taken => k_is)
    (case Xf_Taken => k_is)
    (case Xg_Taken => k_is)
    (case Xh_Taken => k_is)
    (case Xi_Taken => k_is)
    (case E_Taken_LaidError => first | k_is | rfl | decide +kernel)
    (case Q_Taken_Misfit => first | k_is | rfl | decide +kernel)
    (case Q_Taken_Strange => first | k_is | rfl | decide +kernel)
    (case Q_Taken_Taken => first | k_is | rfl | decide +kernel)
    (case Q_Taken_Unknown => first | k_is | rfl | decide +kernel)
    (case Q_Taken_ValueError => first | k_is | rfl | decide +kernel)
    (case X1_Unknown => k_is)
    (case X2_Unknown => decide +kernel)
    (case X3_Unknown => k_is)
    (case X4_Unknown => k_is)
    (case X5_Unknown => k_is)
    (case X6_Unknown => k_is)
    (case X7_Unknown => k_is)
    (case X8_Unknown => k_is)
    (case X9_Unknown => k_is)
    (case Xa_Unknown => k_is)
    (case Xb_Unknown => k_is)
    (case Y0_Unknown => k_is)
    (case Xc_Unknown => k_is)
    (case Xd_Unknown => k_is)
    (case Xe_Unknown => k_is)
    (case Xf_Unknown => k_is)
    (case Xg_Unknown => k_is)
    (case Xh_Unknown => k_is)
    (case Xi_Unknown => k_is)
    (case E_Unknown_LaidError => first | k_is | rfl | decide +kernel)
    (case Q_Unknown_Misfit => first | k_is | rfl | decide +kernel)
    (case Q_Unknown_Strange => first | k_is | rfl | decide +kernel)
    (case Q_Unknown_Taken => first | k_is | rfl | decide +kernel)
    (case Q_Unknown_Unknown => first | k_is | rfl | decide +kernel)
    (case Q_Unknown_ValueError => first | k_is | rfl | decide +kernel)
    (case P1_Grammar => k_is)
    (case P2_Grammar => k_is)
    (case P3_Grammar => k_is)
    (case P4_Grammar => k_is)
    (case M1_Grammar => k_is)
    (case M3_Grammar => k_is)
    (case M4_Grammar => k_is)
    (case N_Grammar_entries => k_is)
    (case N_Grammar_order => k_is)
    (case N_Grammar_root => k_is)
    (case m2_Grammar___contains__ => k_is)
    (case m2_Grammar___getitem__ => k_is)
    (case m2_Grammar___iter__ => k_is)
    (case m2_Grammar___len__ => k_is)
    (case m2_Grammar_check_inner => k_is)
    (case R1_Grammar => k_is)
    (case R2_Grammar => k_is)
end S_P_top
