import PyProof.Rows.All
import Wide.All
import OpenK.AllK
import Wide.FinOn
import HandS.ForMost
import HandS.ForExc
import HandS.Evl
import HandS.Walk
import HandS.IsInst
import KE.KDictKeyed
import HandS.Lambda
import HandS.TupAny
import HandS.Deep
import HandS.Flow
import HandS.Wide
import HandS.Text
import HandS.CallSlots
import HandS.ExcCtx
import HandS.HotCalls
import HandS.ExcInit
import HandS.ExcField
import HandS.ExcIs
import KE.KExcIs
import HandS.ExcInitHot
import HandS.FStr
import HandS.Iter
import HandS.Zip0
import PyProof.EnumMake
import PyProof.Draws
import HandS.Style
import HandS.ClsMeth
import KE.GoesMore
import KE.GoesZip
import PyProof.StrOps2
import PyProof.Rows.MatchSeqLen
import KE.KUnpack
import HandS.NoneIn
import HandS.More
import HandS.Star
import HandS.SlotsOwn
import HandS.OwnIter
import HandS.IterVal
import KE.KCallOwn
import KE.KOwnIter
import HandS.TupLen
import HandS.Property
import HandS.Conv
import HandS.SortRule
import KE.KDictDisplayH
import HandS.Defaults
import HandS.TryOnly
import HandS.SortInts
import HandS.SortOrd
import HandS.DictComp
import KE.DataMinMax
import KE.KDictCopyH
import HandS.ListItems
import PyProof.ListStr
import PyProof.InstNe
import HandS.MakeKwOnly
import KE.KTupSum
import HandS.TryMany
import KE.KEqDict
import PyProof.EqKinds
import HandS.RaiseMore
import HandS.StrMore
import HandS.TupLe
import HandS.OwnEq
import PyProof.ListRange
import KE.KDictZip
import HandS.GenList
import KE.SortKeyHeap
import HandS.SortKw
import HandS.EndTab
import KE.KNestM
import KE.LtData
import PySem.Challenge.RW_laidforall_k34_galleys
set_option Elab.async false
set_option linter.all false
set_option maxRecDepth 100000
section S_DxA
set_option Elab.async false
set_option linter.all false
set_option maxRecDepth 100000
namespace Dx
open PySem L2
/-- data: what a value stands for, whatever its address -/
inductive D where
  | non
  | bl (b : Bool)
  | int (i : Int)
  | str (s : Str)
  | lst (xs : List D)
  | fz (xs : List D)
  | tup (xs : List D)
  | kt (xs : List D)
  | dk (ks : List Key) (vs : List D)
  | dt (ks : List (List Key)) (vs : List D)
  | dn (ks vs : List D)
  | obj (c : Str) (ns : List Str) (vs : List D)
  | own (k : Nat)
  | st (k : Nat) (rows : List (List D))
/-- where the classes of the text stand -/
abbrev CM := Str → Option Addr
/-- H' knows o at a; of a table of code objects, that it is one -/
@[reducible] def Nx (H' : Hp) (a : Addr) (o : HO) : Prop := match o with
  | .tbl _ => ∃ ps, H' a = some (.tbl ps)
  | o => H' a = some o
theorem Nx.mk {H' : Hp} {a : Addr} {o : HO} (h : H' a = some o) : Nx H' a o := by
  cases o with
  | tbl ps => exact ⟨ps, h⟩
  | _ => exact h
/-- H' knows all that H knows; tables of code objects may have changed -/
def Ex (H H' : Hp) : Prop := ∀ a o, H a = some o → Nx H' a o
theorem Ex.refl {H : Hp} : Ex H H := fun _ _ h => .mk h
theorem Nx.up {H1 H2 : Hp} {a : Addr} {o : HO} (h : Nx H1 a o) (b : Ex H1 H2) : Nx H2 a o := by
  cases o with
  | tbl ps =>
    obtain ⟨ps1, e⟩ := h
    exact b a (.tbl ps1) e
  | _ => exact b a _ h
theorem Ex.trans {H H1 H2 : Hp} (a : Ex H H1) (b : Ex H1 H2) : Ex H H2 := fun x o h => (a x o h).up b
theorem Nx.ne {H' : Hp} {a : Addr} {o : HO} (h : Nx H' a o) (n : H' a = none) : False := by
  cases o with
  | tbl ps =>
    obtain ⟨ps1, e⟩ := h
    rw [n] at e; cases e
  | _ => have e : H' a = _ := h; rw [n] at e; cases e
theorem Nx.of {H' : Hp} {a : Addr} {o : HO} (h : Nx H' a o) (n : ∀ ps, o ≠ .tbl ps) : H' a = some o := by
  cases o with
  | tbl ps => exact absurd rfl (n ps)
  | _ => exact h
theorem Nx.at {H1 H2 : Hp} {a : Addr} {o : HO} (h : Nx H1 a o) (k : H2 a = H1 a) : Nx H2 a o := by
  cases o with
  | tbl ps =>
    obtain ⟨ps1, e⟩ := h
    exact ⟨ps1, k.trans e⟩
  | _ => exact k.trans h
theorem Ex.nn {H H' : Hp} (e : Ex H H') {p : Addr} (h : H' p = none) : H p = none := by
  cases h1 : H p with
  | none => rfl
  | some o => exact ((e p o h1).ne h).elim
theorem Ex.same {H H' : Hp} (e : Ex H H') {p : Addr} {o o' : HO} (h : H p = some o) (h' : H' p = some o') (n : ∀ ps, o' ≠ .tbl ps) : o = o' := by
  have z := e p o h
  cases o with
  | tbl ps =>
    obtain ⟨ps1, z⟩ := z
    rw [h'] at z
    exact absurd (Option.some.inj z) (n ps1)
  | _ =>
    have z : H' p = _ := z
    rw [h'] at z
    exact (Option.some.inj z).symm
theorem Ex.new {H : Hp} {p : Addr} {o : HO} (h : H p = none) : Ex H (upd H p o) := fun a u e => .mk (by
  rw [upd_ne (ne_of_none e h)]; exact e)
theorem Nx.put {H' : Hp} {a p : Addr} {o u : HO} (h : Nx H' a u) (n : a ≠ p) : Nx (upd H' p o) a u := by
  cases u with
  | tbl ps =>
    obtain ⟨ps1, e⟩ := h
    exact ⟨ps1, by rw [upd_ne n]; exact e⟩
  | _ => exact (upd_ne n).trans h
theorem Ex.put {H H' : Hp} {p : Addr} {o : HO} (e : Ex H H') (h : H p = none) : Ex H (upd H' p o) := fun a u ha => (e a u ha).put (ne_of_none ha h)
theorem Ex.both {S H : Hp} {p : Addr} {o : HO} (e : Ex S H) : Ex (upd S p o) (upd H p o) := fun a u ha => by
  by_cases h : a = p
  · subst h; rw [upd_same] at ha; exact .mk (by rw [upd_same]; exact ha)
  · rw [upd_ne h] at ha; exact (e a u ha).put h
theorem Ex.rd {H H' : Hp} {a : Addr} {u : HO} (e : Ex H H') (h : Rd H a u) (n : ∀ ps, u ≠ .tbl ps := by intro ps z; cases z) : Rd H' a u := by
  rcases h with h | ⟨o, h⟩
  · exact .inl ((e a _ h).of n)
  · exact .inr ⟨o, e a _ h⟩
theorem Ex.l {K : PySem.W.Frag} {H H' : Hp} {a : Addr} {xs : List V} (e : Ex H H') (h : SqL K H a xs) : SqL K H' a xs := by
  rcases h with h | h
  · exact .inl (e.rd h)
  · exact .inr h
theorem Ex.t {K : PySem.W.Frag} {H H' : Hp} {a : Addr} {xs : List V} (e : Ex H H') (h : SqT K H a xs) : SqT K H' a xs := by
  rcases h with h | h
  · exact .inl (e.rd h)
  · exact .inr h
mutual
def nkD : D → Option NestedKey
  | .non => some .none
  | .bl b => some (.num (if b = true then 1 else 0))
  | .int i => some (.num i)
  | .tup ds => (nkL ds).map .tup
  | .kt ds => (nkL ds).map .tup
  | _ => none
def nkL : List D → Option (List NestedKey)
  | [] => some []
  | d :: ds => match nkD d, nkL ds with
    | some k, some ks => some (k :: ks)
    | _, _ => none
end
/-- a key: a tuple, not too deep -/
def nkT (d : D) : Option NestedKey := match nkD d with
  | some (.tup ks) => if (NestedKey.tup ks).depth ≤ 8 then some (.tup ks) else none
  | _ => none
/-- an entry, its value told -/
def EntOk (e : NestedKey × Addr × V) (x : NestedKey × Addr × Value) : Prop := e.1 = x.1 ∧ e.2.1 = x.2.1 ∧ RelV e.2.2 x.2.2
/-- what stands at p, its very object; no text is in the keys, so their hashes are the same in every world -/
def dnP (p : Addr) (ob : Obj) (es : List (NestedKey × Addr × V)) (h : Heap) : Prop :=
  (p == sysModules) = false ∧ ∃ (xs : List (NestedKey × Addr × Value)) (o : Obj) (eps : Array DictEntry) (ep : Nat), Paired EntOk es xs ∧ h.get? p = some o ∧ o.ExactDict ∧ o.data = .dict eps ep ∧ (∀ w : World, eps.toList = xs.map fun x => ⟨x.1.hash w, .ref x.2.1, x.2.2⟩) ∧ o = ob
/-- the keys by data -/
structure NkOk (es : List (NestedKey × Addr × V)) (ks : List D) : Prop where
  eq : ks.map nkT = es.map fun e => some e.1
  nd : (es.map (·.1)).Nodup
  sz : es.length ≤ sizeLine
mutual
/-- the value v, at the heap S, stands for the data -/
inductive Rp (K : PySem.W.Frag) (cm : CM) (S : Hp) : V → D → Prop
  | non : Rp K cm S .non .non
  | bl (b : Bool) : Rp K cm S (.bl b) (.bl b)
  | int (i : Int) : Rp K cm S (.int i) (.int i)
  | str (x : Str) : Rp K cm S (.str x) (.str x)
  | lst {a : Addr} {xs : List V} {ds : List D} : S a = some (.lst xs) → RpA K cm S xs ds → Rp K cm S (.ref a) (.lst ds)
  | fz {a : Addr} {xs : List V} {ds : List D} : SqL K S a xs → RpA K cm S xs ds → Rp K cm S (.ref a) (.fz ds)
  | tup {a : Addr} {xs : List V} {ds : List D} : S a = some (.tup xs) → RpA K cm S xs ds → Rp K cm S (.ref a) (.tup ds)
  | kt {a : Addr} {xs : List V} {ds : List D} : SqT K S a xs → RpA K cm S xs ds → Rp K cm S (.ref a) (.kt ds)
  | dk {a : Addr} {w : Obj} {kvs : List (Key × V)} {ks : List Key} {ds : List D} : S a = some (.frz w (.dK kvs)) → ks = kvs.map (·.1) → RpA K cm S (kvs.map (·.2)) ds → Rp K cm S (.ref a) (.dk ks ds)
  | dt {a : Addr} {w : Obj} {kvs : List (List Key × V)} {ks : List (List Key)} {ds : List D} : S a = some (.frz w (.dT kvs)) → ks = kvs.map (·.1) → RpA K cm S (kvs.map (·.2)) ds → Rp K cm S (.ref a) (.dt ks ds)
  | dn {a p : Addr} {w ob : Obj} {es : List (NestedKey × Addr × V)} {ks ds : List D} : S a = some (.frz w (.ext (dnP p ob es))) → NkOk es ks → RpA K cm S (es.map fun e => .ref e.2.1) ks → RpA K cm S (es.map (·.2.2)) ds → Rp K cm S (.ref a) (.dn ks ds)
  | obj {a C dx : Addr} {c : Str} {fs : List (Str × V)} {ns : List Str} {ds : List D} : cm c = some C → S a = some (.ins C dx fs) → ns = fs.map (·.1) → RpA K cm S (fs.map (·.2)) ds → Rp K cm S (.ref a) (.obj c ns ds)
inductive RpA (K : PySem.W.Frag) (cm : CM) (S : Hp) : List V → List D → Prop
  | nil : RpA K cm S [] []
  | cons {v : V} {vs : List V} {d : D} {ds : List D} : Rp K cm S v d → RpA K cm S vs ds → RpA K cm S (v :: vs) (d :: ds)
end
section
variable {K : PySem.W.Frag} {cm : CM} {S S' : Hp}
mutual
theorem Rp.mono (e : Ex S S') : ∀ {v : V} {d : D}, Rp K cm S v d → Rp K cm S' v d
  | _, .non, h => by cases h; exact .non
  | _, .bl _, h => by cases h; exact .bl _
  | _, .int _, h => by cases h; exact .int _
  | _, .str _, h => by cases h; exact .str _
  | _, .lst ds, h => by cases h with | lst q r => exact .lst (e _ _ q) (RpA.mono e r)
  | _, .fz ds, h => by cases h with | fz q r => exact .fz (e.l q) (RpA.mono e r)
  | _, .tup ds, h => by cases h with | tup q r => exact .tup (e _ _ q) (RpA.mono e r)
  | _, .kt ds, h => by cases h with | kt q r => exact .kt (e.t q) (RpA.mono e r)
  | _, .dk _ ds, h => by cases h with | dk q k r => exact .dk (e _ _ q) k (RpA.mono e r)
  | _, .dt _ ds, h => by cases h with | dt q k r => exact .dt (e _ _ q) k (RpA.mono e r)
  | _, .dn ks ds, h => by cases h with | dn q k r1 r2 => exact .dn (e _ _ q) k (RpA.mono e r1) (RpA.mono e r2)
  | _, .obj _ _ ds, h => by cases h with | obj c q k r => exact .obj c (e _ _ q) k (RpA.mono e r)
theorem RpA.mono (e : Ex S S') : ∀ {vs : List V} {ds : List D}, RpA K cm S vs ds → RpA K cm S' vs ds
  | _, [], h => by cases h; exact .nil
  | _, d :: ds, h => by cases h with | cons a r => exact .cons (Rp.mono e a) (RpA.mono e r)
end
theorem RpA.length : ∀ {vs : List V} {ds : List D}, RpA K cm S vs ds → vs.length = ds.length
  | _, _, .nil => rfl
  | _, _, .cons _ r => by simp [RpA.length r]
theorem RpA.get : ∀ {vs : List V} {ds : List D} {i : Nat} {d : D}, RpA K cm S vs ds → ds[i]? = some d → ∃ v, vs[i]? = some v ∧ Rp K cm S v d
  | _, _, _, _, .nil, e => by simp at e
  | _, _, 0, _, .cons h _, e => by simp at e; subst e; exact ⟨_, by simp, h⟩
  | _, _, i + 1, d, .cons _ r, e => by
    obtain ⟨v, h1, h2⟩ := RpA.get (i := i) (d := d) r (by simpa using e)
    exact ⟨v, by simpa using h1, h2⟩
theorem RpA.getV : ∀ {vs : List V} {ds : List D} {i : Nat} {v : V}, RpA K cm S vs ds → vs[i]? = some v → ∃ d, ds[i]? = some d ∧ Rp K cm S v d
  | _, _, _, _, .nil, e => by simp at e
  | _, _, 0, _, .cons h _, e => by simp at e; subst e; exact ⟨_, by simp, h⟩
  | _, _, i + 1, v, .cons _ r, e => by
    obtain ⟨d, h1, h2⟩ := RpA.getV (i := i) (v := v) r (by simpa using e)
    exact ⟨d, by simpa using h1, h2⟩
theorem RpA.app : ∀ {vs us : List V} {ds es : List D}, RpA K cm S vs ds → RpA K cm S us es → RpA K cm S (vs ++ us) (ds ++ es)
  | _, _, _, _, .nil, s => s
  | _, _, _, _, .cons h r, s => .cons h (RpA.app r s)
theorem RpA.one {v : V} {d : D} (h : Rp K cm S v d) : RpA K cm S [v] [d] := .cons h .nil
theorem RpA.take : ∀ {vs : List V} {ds : List D} (n : Nat), RpA K cm S vs ds → RpA K cm S (vs.take n) (ds.take n)
  | _, _, 0, _ => .nil
  | _, _, _ + 1, .nil => .nil
  | _, _, n + 1, .cons h r => .cons h (RpA.take n r)
theorem RpA.drop : ∀ {vs : List V} {ds : List D} (n : Nat), RpA K cm S vs ds → RpA K cm S (vs.drop n) (ds.drop n)
  | _, _, 0, r => r
  | _, _, _ + 1, .nil => .nil
  | _, _, n + 1, .cons _ r => RpA.drop n r
theorem RpA.set {v : V} {d : D} (h : Rp K cm S v d) : ∀ {vs : List V} {ds : List D} (i : Nat), RpA K cm S vs ds → RpA K cm S (vs.set i v) (ds.set i d)
  | _, _, _, .nil => .nil
  | _, _, 0, .cons _ r => .cons h r
  | _, _, i + 1, .cons q r => .cons q (RpA.set h i r)
theorem RpA.reverse : ∀ {vs : List V} {ds : List D}, RpA K cm S vs ds → RpA K cm S vs.reverse ds.reverse
  | _, _, .nil => .nil
  | _, _, .cons h r => by rw [List.reverse_cons, List.reverse_cons]; exact (RpA.reverse r).app (.one h)
end
/-- the content of a mutable object stands for the data, its parts at S -/
inductive RpO (K : PySem.W.Frag) (cm : CM) (S : Hp) : HO → D → Prop
  | lst {xs : List V} {ds : List D} : RpA K cm S xs ds → RpO K cm S (.lst xs) (.lst ds)
  | dk {kvs : List (Key × V)} {ks : List Key} {ds : List D} : ks = kvs.map (·.1) → RpA K cm S (kvs.map (·.2)) ds → RpO K cm S (.dK kvs) (.dk ks ds)
  | dt {kvs : List (List Key × V)} {ks : List (List Key)} {ds : List D} : ks = kvs.map (·.1) → RpA K cm S (kvs.map (·.2)) ds → RpO K cm S (.dT kvs) (.dt ks ds)
  | dn {p : Addr} {ob : Obj} {es : List (NestedKey × Addr × V)} {ks ds : List D} : NkOk es ks → RpA K cm S (es.map fun e => .ref e.2.1) ks → RpA K cm S (es.map (·.2.2)) ds → RpO K cm S (.ext (dnP p ob es)) (.dn ks ds)
  | obj {C dx : Addr} {c : Str} {fs : List (Str × V)} {ns : List Str} {ds : List D} : cm c = some C → ns = fs.map (·.1) → RpA K cm S (fs.map (·.2)) ds → RpO K cm S (.ins C dx fs) (.obj c ns ds)
theorem RpO.mono {K : PySem.W.Frag} {cm : CM} {S S' : Hp} (e : Ex S S') {o : HO} {d : D} (h : RpO K cm S o d) : RpO K cm S' o d := by
  cases h with
  | lst r => exact .lst (r.mono e)
  | dk k r => exact .dk k (r.mono e)
  | dt k r => exact .dt k (r.mono e)
  | dn k r1 r2 => exact .dn k (r1.mono e) (r2.mono e)
  | obj c k r => exact .obj c k (r.mono e)
def isDct : D → Bool
  | .dk _ _ => true
  | .dt _ _ => true
  | .dn _ _ => true
  | _ => false
theorem RpO.pub {K : PySem.W.Frag} {cm : CM} {S : Hp} {o : HO} {d : D} {p : Addr} (h : RpO K cm S o d) (nd : isDct d = false) (hp : S p = o) : Rp K cm S (.ref p) d := by
  cases h with
  | lst r => exact .lst hp r
  | dk k r => cases nd
  | dt k r => cases nd
  | dn k r1 r2 => cases nd
  | obj c k r => exact .obj c hp k r
theorem RpO.pubD {K : PySem.W.Frag} {cm : CM} {S : Hp} {o : HO} {d : D} {p : Addr} {w : Obj} (h : RpO K cm S o d) (nd : isDct d = true) (hp : S p = some (.frz w o)) : Rp K cm S (.ref p) d ∧ Mut (some o) := by
  cases h with
  | lst r => cases nd
  | dk k r => exact ⟨.dk hp k r, trivial⟩
  | dt k r => exact ⟨.dt hp k r, trivial⟩
  | dn k r1 r2 => exact ⟨.dn hp k r1 r2, trivial⟩
  | obj c k r => cases nd
theorem RpO.mut {K : PySem.W.Frag} {cm : CM} {S : Hp} {o : HO} {d : D} (h : RpO K cm S o d) : Mut (some o) := by
  cases h <;> trivial
/-- what is no table, no code object -/
theorem RpO.nt {K : PySem.W.Frag} {cm : CM} {S : Hp} {o : HO} {d : D} (h : RpO K cm S o d) : ∀ ps, o ≠ .tbl ps := fun ps z => by
  subst z; cases h
theorem code_ne_dn {cA p : Addr} {q : Str} {ob : Obj} {es : List (NestedKey × Addr × V)} : LamX.CodeO cA q ≠ .ext (dnP p ob es) := fun z => by
  have z : (fun h : Heap => ∃ (oc : Obj) (vs : Array Value) (t : Tok), h.get? cA = some oc ∧ oc.data = .fields vs ∧ vs[1]? = some (.str q t)) = dnP p ob es := by
    unfold LamX.CodeO at z
    exact HO.ext.inj z
  let oc : Obj := { cls := .none, data := .fields #[.none, .str q 0] }
  let hp : Heap := ⟨Array.replicate (cA + 1) oc, {}⟩
  have at_ : ∀ b x, hp.get? b = some x → x = oc := fun b x e => by
    by_cases hb : b < cA + 1
    · have g : hp.get? b = some oc := by
        show (match (Array.replicate (cA + 1) oc)[b]? with | some ⟨_, _, .freed, _⟩ => none | o => o) = some oc
        rw [Array.getElem?_replicate, if_pos hb]
      rw [g] at e
      exact (Option.some.inj e).symm
    · have g : hp.get? b = none := by
        show (match (Array.replicate (cA + 1) oc)[b]? with | some ⟨_, _, .freed, _⟩ => none | o => o) = none
        rw [Array.getElem?_replicate, if_neg hb]
      rw [g] at e; cases e
  have g : hp.get? cA = some oc := by
    show (match (Array.replicate (cA + 1) oc)[cA]? with | some ⟨_, _, .freed, _⟩ => none | o => o) = some oc
    rw [Array.getElem?_replicate, if_pos (Nat.lt_succ_self _)]
  have k := (congrFun z hp).mp ⟨oc, #[.none, .str q 0], 0, g, rfl, rfl⟩
  obtain ⟨_, xs, o, eps, ep, _, e, _, hd, _⟩ := k
  rw [at_ p o e] at hd
  cases hd
theorem RpO.nc {K : PySem.W.Frag} {cm : CM} {S : Hp} {cA : Addr} {q : Str} {d : D} (h : RpO K cm S (LamX.CodeO cA q) d) : False := by
  generalize e : LamX.CodeO cA q = o at h
  cases h with
  | dn k r1 r2 => exact code_ne_dn e
  | _ => unfold LamX.CodeO at e; cases e
/-- the tables of code objects that H tells stand in H', too -/
def lamN : Str := "price_table.<locals>.<lambda>"
def Tk (H H' : Hp) : Prop := ∀ P, LamX.TabS H P lamN → LamX.TabS H' P lamN
theorem Tk.refl {H : Hp} : Tk H H := fun _ h => h
theorem Tk.trans {H H1 H2 : Hp} (a : Tk H H1) (b : Tk H1 H2) : Tk H H2 := fun P h => b P (a P h)
theorem Tk.new {H : Hp} {p : Addr} {o : HO} (n : H p = none) : Tk H (upd H p o) := fun _ h => h.ext fun b u e => by
  rw [upd_ne (ne_of_none e n)]; exact e
/-- no table, no code object -/
def Pl (o : HO) : Prop := (∀ ps, o ≠ .tbl ps) ∧ ∀ cA q, o ≠ LamX.CodeO cA q
theorem Pl.lst {xs : List V} : Pl (.lst xs) := ⟨fun _ z => (by cases z), fun _ _ z => (by unfold LamX.CodeO at z; cases z)⟩
theorem Pl.tup {xs : List V} : Pl (.tup xs) := ⟨fun _ z => (by cases z), fun _ _ z => (by unfold LamX.CodeO at z; cases z)⟩
theorem Pl.dK {kvs : List (Key × V)} : Pl (.dK kvs) := ⟨fun _ z => (by cases z), fun _ _ z => (by unfold LamX.CodeO at z; cases z)⟩
theorem Pl.dT {kvs : List (List Key × V)} : Pl (.dT kvs) := ⟨fun _ z => (by cases z), fun _ _ z => (by unfold LamX.CodeO at z; cases z)⟩
theorem Pl.ins {C dx : Addr} {fs : List (Str × V)} : Pl (.ins C dx fs) := ⟨fun _ z => (by cases z), fun _ _ z => (by unfold LamX.CodeO at z; cases z)⟩
theorem Pl.ext {p : Addr} {ob : Obj} {es : List (NestedKey × Addr × V)} : Pl (.ext (dnP p ob es)) := ⟨fun _ z => (by cases z), fun _ _ z => code_ne_dn z.symm⟩
theorem RpO.pl {K : PySem.W.Frag} {cm : CM} {S : Hp} {o : HO} {d : D} (h : RpO K cm S o d) : Pl o := ⟨h.nt, fun cA q z => by subst z; exact h.nc⟩
theorem Tk.at {H : Hp} {p : Addr} {o o' : HO} (h : H p = some o) (r : Pl o) : Tk H (upd H p o') := fun P ⟨ps, h1, h2, h3⟩ => by
  refine ⟨ps, ?_, h2, fun pos cv hc => ?_⟩
  · rw [upd_ne fun z => ?_]
    · exact h1
    · rw [z, h] at h1
      exact r.1 ps (Option.some.inj h1)
  · obtain ⟨cA, e1, e2⟩ := h3 pos cv hc
    refine ⟨cA, e1, ?_⟩
    rw [upd_ne fun z => ?_]
    · exact e2
    · subst z
      rw [h] at e2
      exact r.2 _ _ (Option.some.inj e2)
theorem Tk.sub {H H' : Hp} (k : ∀ b u, H b = some u → H' b = some u) : Tk H H' := fun _ h => h.ext k
theorem Tk.butP {H H' : Hp} {O : Addr → Prop} (h : ∀ a, O a → ∃ o, H a = some o ∧ Pl o) (k : ∀ b u, ¬ O b → H b = some u → H' b = some u) : Tk H H' := fun P ⟨ps, h1, h2, h3⟩ => by
  refine ⟨ps, k _ _ (fun z => ?_) h1, h2, fun pos cv hc => ?_⟩
  · obtain ⟨o, e, r⟩ := h P z
    rw [h1] at e
    exact r.1 ps (Option.some.inj e).symm
  · obtain ⟨cA, e1, e2⟩ := h3 pos cv hc
    refine ⟨cA, e1, k _ _ (fun z => ?_) e2⟩
    obtain ⟨o, e, r⟩ := h cA z
    rw [e2] at e
    exact r.2 _ _ (Option.some.inj e).symm
theorem Tk.but {H H' : Hp} {A : List Addr} (h : ∀ a ∈ A, ∃ o, H a = some o ∧ Pl o) (k : ∀ b u, b ∉ A → H b = some u → H' b = some u) : Tk H H' := fun P ⟨ps, h1, h2, h3⟩ => by
  refine ⟨ps, k _ _ (fun z => ?_) h1, h2, fun pos cv hc => ?_⟩
  · obtain ⟨o, e, r⟩ := h P z
    rw [h1] at e
    exact r.1 ps (Option.some.inj e).symm
  · obtain ⟨cA, e1, e2⟩ := h3 pos cv hc
    refine ⟨cA, e1, k _ _ (fun z => ?_) e2⟩
    obtain ⟨o, e, r⟩ := h cA z
    rw [e2] at e
    exact r.2 _ _ (Option.some.inj e).symm
theorem Tk.mut {K : PySem.W.Frag} {cm : CM} {S H : Hp} {p : Addr} {o o' : HO} {d : D} (h : H p = some o) (r : RpO K cm S o d) : Tk H (upd H p o') := fun P ⟨ps, h1, h2, h3⟩ => by
  refine ⟨ps, ?_, h2, fun pos cv hc => ?_⟩
  · rw [upd_ne fun z => ?_]
    · exact h1
    · rw [z, h] at h1
      exact r.nt ps (Option.some.inj h1)
  · obtain ⟨cA, e1, e2⟩ := h3 pos cv hc
    refine ⟨cA, e1, ?_⟩
    rw [upd_ne fun z => ?_]
    · exact e2
    · subst z
      rw [h] at e2
      cases e2
      exact r.nc
/-- not there, or a tuple -/
def Old (o : Option HO) : Prop := o = none ∨ ∃ xs, o = some (.tup xs)
theorem Old.back {H H' : Hp} (e : Ex H H') {a : Addr} (h : Old (H' a)) : Old (H a) := by
  cases q : H a with
  | none => exact .inl rfl
  | some u =>
    rcases h with h | ⟨xs, h⟩
    · exact ((e a u q).ne h).elim
    · have z := e a u q
      cases u with
      | tup ys => exact .inr ⟨ys, rfl⟩
      | tbl ps =>
        obtain ⟨ps1, z⟩ := z
        rw [z] at h; cases h
      | _ => have z : H' a = _ := z; rw [z] at h; cases h
theorem Old.not {H : Hp} {a : Addr} {o : HO} (h : Old (H a)) (q : H a = some o) : ∃ xs, o = .tup xs := by
  rw [q] at h
  rcases h with h | ⟨xs, h⟩
  · cases h
  · cases h; exact ⟨xs, rfl⟩
/-- S is the part of H that stays; from (S, H) to (S', H') nothing known has changed -/
structure Fwd (S H S' H' : Hp) : Prop where
  s : Ex S S'
  h : Ex H H'
  sub : Ex S' H'
  new : ∀ a o, S' a = some o → S a = none → Old (H a)
  tb : Tk H H'
theorem Fwd.refl {S H : Hp} (e : Ex S H) : Fwd S H S H := ⟨Ex.refl, Ex.refl, e, fun a o h n => (by rw [n] at h; cases h), Tk.refl⟩
theorem Fwd.trans {S H S1 H1 S2 H2 : Hp} (a : Fwd S H S1 H1) (b : Fwd S1 H1 S2 H2) : Fwd S H S2 H2 :=
  ⟨a.s.trans b.s, a.h.trans b.h, b.sub, fun p o h n => (by
    cases e : S1 p with
    | some u => exact a.new p u e n
    | none => exact (b.new p o h e).back a.h), a.tb.trans b.tb⟩
theorem Fwd.both {S H : Hp} {p : Addr} {o : HO} (e : Ex S H) (n : H p = none) : Fwd S H (upd S p o) (upd H p o) :=
  ⟨Ex.new (e.nn n), Ex.new n, e.both, fun a u h m => (by
    by_cases ha : a = p
    · subst ha; exact .inl n
    · rw [upd_ne ha, m] at h; cases h), Tk.new n⟩
theorem Fwd.heap {S H : Hp} {p : Addr} {o : HO} (e : Ex S H) (n : H p = none) : Fwd S H S (upd H p o) :=
  ⟨Ex.refl, Ex.new n, e.put (e.nn n), fun a u h m => (by rw [m] at h; cases h), Tk.new n⟩
/-- a new object known to H' alone becomes one that stays -/
theorem Fwd.pub {S H S' H' : Hp} {p : Addr} {o : HO} (f : Fwd S H S' H') (n : H p = none) (ns : S' p = none) (h : H' p = some o) : Fwd S H (upd S' p o) H' :=
  ⟨f.s.trans (Ex.new ns), f.h, fun a u ha => (by
    by_cases hh : a = p
    · subst hh; rw [upd_same] at ha; exact .mk (by rw [h]; exact ha)
    · rw [upd_ne hh] at ha; exact f.sub a u ha), fun a u ha m => (by
    by_cases hh : a = p
    · subst hh; exact .inl n
    · rw [upd_ne hh] at ha; exact f.new a u ha m), f.tb⟩
inductive Res (α : Type) where
  | ok (a : α)
  | err (c : Str) (ns : List Str) (vs : List D)
  | bad
@[inline] def Res.bind {α β : Type} : Res α → (α → Res β) → Res β
  | .ok a, k => k a
  | .err c ns vs, _ => .err c ns vs
  | .bad, _ => .bad
instance : Monad Res where
  pure := Res.ok
  bind := Res.bind
abbrev Rho := List (Option D)
/-- the end of a statement -/
inductive SR where
  | nx (r : Rho)
  | rt (d : D)
  | bk (r : Rho)
  | ct (r : Rho)
  | er (r : Rho) (c : Str) (ns : List Str) (vs : List D)
  | bad
inductive Ow where
  | v | o | b | w
  | s (pre : List Addr)
  | x (a C dd : Addr)
  | i (a : Addr)
  | j (a : Addr) (fs : List (Str × V))
def isO : Ow → Prop
  | .o => True
  | .i _ => True
  | _ => False
structure Cf where
  K : PySem.W.Frag
  cm : CM
  W : WX
  ge : Option (List Ow)
  rm : Bool
  tb : Addr → Str → Prop
/-- a value, or a mutable object read at H whose parts stay -/
def RpB (K : PySem.W.Frag) (cm : CM) (S H : Hp) (v : V) (d : D) : Prop :=
  Rp K cm S v d ∨ ∃ p ho, v = .ref p ∧ H p = some ho ∧ RpO K cm S ho d
section
variable {K : PySem.W.Frag} {cm : CM} {S S' H H' : Hp} {v : V} {d : D}
theorem RpB.mono (h : RpB K cm S H v d) (e : Ex S S') (e' : Ex H H') : RpB K cm S' H' v d := by
  rcases h with h | ⟨p, ho, h1, h2, h3⟩
  · exact .inl (h.mono e)
  · exact .inr ⟨p, ho, h1, (e' _ _ h2).of h3.nt, h3.mono e⟩
theorem RpB.list {ds : List D} (h : RpB K cm S H v (.lst ds)) (e : Ex S H) : ∃ p xs, v = .ref p ∧ H p = some (.lst xs) ∧ RpA K cm S xs ds := by
  rcases h with h | ⟨p, ho, h1, h2, h3⟩
  · cases h with | lst q r => exact ⟨_, _, rfl, e _ _ q, r⟩
  · cases h3 with | lst r => exact ⟨p, _, h1, h2, r⟩
theorem RpB.int {i : Int} (h : RpB K cm S H v (.int i)) : v = .int i := by
  rcases h with h | ⟨p, ho, h1, h2, h3⟩
  · cases h; rfl
  · cases h3
theorem RpB.bl {b : Bool} (h : RpB K cm S H v (.bl b)) : v = .bl b := by
  rcases h with h | ⟨p, ho, h1, h2, h3⟩
  · cases h; rfl
  · cases h3
theorem RpB.non (h : RpB K cm S H v .non) : v = .non := by
  rcases h with h | ⟨p, ho, h1, h2, h3⟩
  · cases h; rfl
  · cases h3
theorem RpB.str {z : Str} (h : RpB K cm S H v (.str z)) : v = .str z := by
  rcases h with h | ⟨p, ho, h1, h2, h3⟩
  · cases h; rfl
  · cases h3
theorem RpB.tup {ds : List D} (h : RpB K cm S H v (.tup ds)) (e : Ex S H) : ∃ p xs, v = .ref p ∧ SqT K H p xs ∧ RpA K cm S xs ds ∧ S p = some (.tup xs) := by
  rcases h with h | ⟨p, ho, h1, h2, h3⟩
  · cases h with | tup q r => exact ⟨_, _, rfl, .inl (.inl (e _ _ q)), r, q⟩
  · cases h3
theorem RpB.kt {ds : List D} (h : RpB K cm S H v (.kt ds)) (e : Ex S H) : ∃ p xs, v = .ref p ∧ SqT K H p xs ∧ RpA K cm S xs ds ∧ SqT K S p xs := by
  rcases h with h | ⟨p, ho, h1, h2, h3⟩
  · cases h with | kt q r => exact ⟨_, _, rfl, e.t q, r, q⟩
  · cases h3
theorem RpB.fz {ds : List D} (h : RpB K cm S H v (.fz ds)) (e : Ex S H) : ∃ p xs, v = .ref p ∧ SqL K H p xs ∧ RpA K cm S xs ds := by
  rcases h with h | ⟨p, ho, h1, h2, h3⟩
  · cases h with | fz q r => exact ⟨_, _, rfl, e.l q, r⟩
  · cases h3
theorem RpB.dk {ks : List Key} {ds : List D} (h : RpB K cm S H v (.dk ks ds)) (e : Ex S H) : ∃ p kvs, v = .ref p ∧ Rd H p (.dK kvs) ∧ ks = kvs.map (·.1) ∧ RpA K cm S (kvs.map (·.2)) ds := by
  rcases h with h | ⟨p, ho, h1, h2, h3⟩
  · cases h with | dk q k r => exact ⟨_, _, rfl, .inr ⟨_, e _ _ q⟩, k, r⟩
  · cases h3 with | dk k r => exact ⟨p, _, h1, .inl h2, k, r⟩
theorem RpB.dt {ks : List (List Key)} {ds : List D} (h : RpB K cm S H v (.dt ks ds)) (e : Ex S H) : ∃ p kvs, v = .ref p ∧ Rd H p (.dT kvs) ∧ ks = kvs.map (·.1) ∧ RpA K cm S (kvs.map (·.2)) ds := by
  rcases h with h | ⟨p, ho, h1, h2, h3⟩
  · cases h with | dt q k r => exact ⟨_, _, rfl, .inr ⟨_, e _ _ q⟩, k, r⟩
  · cases h3 with | dt k r => exact ⟨p, _, h1, .inl h2, k, r⟩
theorem RpB.dn {ks ds : List D} (h : RpB K cm S H v (.dn ks ds)) (e : Ex S H) : ∃ q p ob es, v = .ref q ∧ Rd H q (.ext (dnP p ob es)) ∧ NkOk es ks ∧ RpA K cm S (es.map fun e => .ref e.2.1) ks ∧ RpA K cm S (es.map (·.2.2)) ds := by
  rcases h with h | ⟨p, ho, h1, h2, h3⟩
  · cases h with | dn q k r1 r2 => exact ⟨_, _, _, _, rfl, .inr ⟨_, e _ _ q⟩, k, r1, r2⟩
  · cases h3 with | dn k r1 r2 => exact ⟨p, _, _, _, h1, .inl h2, k, r1, r2⟩
theorem RpB.obj {n : Str} {ns : List Str} {ds : List D} (h : RpB K cm S H v (.obj n ns ds)) (e : Ex S H) : ∃ p C dx fs, v = .ref p ∧ cm n = some C ∧ H p = some (.ins C dx fs) ∧ ns = fs.map (·.1) ∧ RpA K cm S (fs.map (·.2)) ds := by
  rcases h with h | ⟨p, ho, h1, h2, h3⟩
  · cases h with | obj c q k r => exact ⟨_, _, _, _, rfl, c, e _ _ q, k, r⟩
  · cases h3 with | obj c k r => exact ⟨p, _, _, _, h1, c, h2, k, r⟩
end
/-- a value, or one of the own lists at the places A -/
def RmV (K : PySem.W.Frag) (cm : CM) (A : List Addr) (S : Hp) (v : V) (d : D) : Prop := Rp K cm S v d ∨ ∃ k a, d = .own k ∧ A[k]? = some a ∧ v = .ref a
def RmA (K : PySem.W.Frag) (cm : CM) (A : List Addr) (S : Hp) (vs : List V) (ds : List D) : Prop := vs.length = ds.length ∧ ∀ (i : Nat) v d, vs[i]? = some v → ds[i]? = some d → RmV K cm A S v d
def SlotOk (c : Cf) (H0 S H : Hp) : Ow → V → D → Prop
  | .v, v, d => Rp c.K c.cm S v d
  | .o, v, d => ∃ p ho, v = .ref p ∧ H p = some ho ∧ S p = none ∧ H0 p = none ∧ RpO c.K c.cm S ho d
  | .i a, v, d => v = .ref a ∧ ∃ p ho, v = .ref p ∧ H p = some ho ∧ S p = none ∧ H0 p = none ∧ RpO c.K c.cm S ho d
  | .b, v, d => RpB c.K c.cm S H0 v d
  | .j a fs, v, d => v = .ref a ∧ ∃ C dx n, c.cm n = some C ∧ H0 a = some (.ins C dx fs) ∧ d = .obj n [] []
  | .s _, v, d => ∃ k M, d = .st k M
  | .w, v, d => ∃ k, d = .own k
  | .x a C dd, v, d => v = .ref a ∧ ∃ n ns ds fs, d = .obj n ns ds ∧ c.cm n = some C ∧ S dd = some (.xd fs) ∧ ns = fs.map (·.1) ∧ RpA c.K c.cm S (fs.map (·.2)) ds
abbrev kd (G : List Ow) (i : Nat) : Ow := G.getD i .v
/-- the own lists that stand in each other, at the places A -/
structure StoOk (K : PySem.W.Frag) (cm : CM) (tb : Addr → Str → Prop) (H0 : Hp) (G : List Ow) (S H : Hp) (σ : St) (r : Rho) (A : List Addr) : Prop where
  nod : A.Nodup
  out : ∀ a ∈ A, S a = none ∧ H0 a = none ∧ ∃ xs, H a = some (.lst xs)
  own : ∀ i d p, r[i]? = some (some d) → isO (kd G i) → σ[i]? = some (some (.ref p)) → p ∉ A
  st : ∀ i k M P, kd G i = .s P → r[i]? = some (some (.st k M)) → (P <+: A ∧ A.length = M.length) ∧ (∃ a, A[k]? = some a ∧ σ[i]? = some (some (.ref a))) ∧ ∀ (n : Nat) row, M[n]? = some row → ∃ a xs, A[n]? = some a ∧ H a = some (.lst xs) ∧ RmA K cm A S xs row
  al : ∀ i k, kd G i = .w → r[i]? = some (some (.own k)) → ∃ a, A[k]? = some a ∧ σ[i]? = some (some (.ref a))
  tab : ∀ P q, tb P q → LamX.TabS H0 P q
theorem RmA.mono {K : PySem.W.Frag} {cm : CM} {A : List Addr} {S S' : Hp} {vs : List V} {ds : List D} (h : RmA K cm A S vs ds) (e : Ex S S') : RmA K cm A S' vs ds :=
  ⟨h.1, fun i v d hv hd => (h.2 i v d hv hd).imp (fun z => z.mono e) id⟩
theorem StoOk.sub {K : PySem.W.Frag} {cm : CM} {tb : Addr → Str → Prop} {H0 S H S' H' : Hp} {G G' : List Ow} {σ σ' : St} {r r' : Rho} {A : List Addr} (h : StoOk K cm tb H0 G S H σ r A) (hS : ∀ a ∈ A, S' a = none) (hH : ∀ a ∈ A, H' a = H a) (eS : Ex S S')
    (ho : ∀ i d p, r'[i]? = some (some d) → isO (kd G' i) → σ'[i]? = some (some (.ref p)) → p ∉ A)
    (hs : ∀ i d, (∃ P, kd G' i = .s P) ∨ kd G' i = .w → r'[i]? = some (some d) → kd G i = kd G' i ∧ r[i]? = some (some d) ∧ σ'[i]? = σ[i]?) : StoOk K cm tb H0 G' S' H' σ' r' A where
  nod := h.nod
  tab := h.tab
  out := fun a ha => by
    obtain ⟨_, h2, h3⟩ := h.out a ha
    exact ⟨hS a ha, h2, by rw [hH a ha]; exact h3⟩
  own := ho
  st := fun i k M P hi hr => by
    obtain ⟨a1, a2, a3⟩ := hs i _ (.inl ⟨P, hi⟩) hr
    obtain ⟨b1, b2, b3⟩ := h.st i k M P (a1.trans hi) a2
    refine ⟨b1, by rw [a3]; exact b2, fun n row hn => ?_⟩
    obtain ⟨a, xs, c1, c2, c3⟩ := b3 n row hn
    exact ⟨a, xs, c1, by rw [hH a (List.mem_of_getElem? c1)]; exact c2, c3.mono eS⟩
  al := fun i k hi hr => by
    obtain ⟨a1, a2, a3⟩ := hs i _ (.inr hi) hr
    rw [a3]
    exact h.al i k (a1.trans hi) a2
theorem StoOk.go {K : PySem.W.Frag} {cm : CM} {tb : Addr → Str → Prop} {H0 S H S' H' : Hp} {G : List Ow} {σ : St} {r : Rho} {A : List Addr} (h : StoOk K cm tb H0 G S H σ r A) (f : Fwd S H S' H') : StoOk K cm tb H0 G S' H' σ r A :=
  h.sub (fun a ha => by
    obtain ⟨h1, _, xs, h3⟩ := h.out a ha
    cases e : S' a with
    | none => rfl
    | some u => obtain ⟨ys, z⟩ := (f.new a u e h1).not h3; cases z) (fun a ha => by
    obtain ⟨_, _, xs, h3⟩ := h.out a ha
    rw [h3]; exact f.h a _ h3) f.s h.own fun i d hi hr => ⟨rfl, hr, rfl⟩
/-- no such lists -/
theorem StoOk.nil {K : PySem.W.Frag} {cm : CM} {tb : Addr → Str → Prop} {H0 S H : Hp} {G : List Ow} {σ : St} {r : Rho} (h : ∀ i d, r[i]? = some (some d) → (∀ P, kd G i ≠ .s P) ∧ kd G i ≠ .w) (ht : ∀ P q, tb P q → LamX.TabS H0 P q) : StoOk K cm tb H0 G S H σ r [] where
  nod := List.nodup_nil
  tab := ht
  out := fun a ha => by cases ha
  own := fun i d p _ _ _ hp => by cases hp
  st := fun i k M P hi hr => absurd hi ((h i _ hr).1 P)
  al := fun i k hi hr => absurd hi (h i _ hr).2
structure EnvOk (c : Cf) (S0 H0 : Hp) (G : List Ow) (S H : Hp) (σ : St) (r : Rho) : Prop where
  fwd : Fwd S0 H0 S H
  len : σ.length = r.length
  slot : ∀ i d, r[i]? = some (some d) → ∃ v, σ[i]? = some (some v) ∧ SlotOk c H0 S H (kd G i) v d
  sep : ∀ i j d e p, r[i]? = some (some d) → r[j]? = some (some e) → isO (kd G i) → isO (kd G j) → σ[i]? = some (some (.ref p)) → σ[j]? = some (some (.ref p)) → i = j
  sto : ∃ A, StoOk c.K c.cm c.tb H0 G S H σ r A
section
variable {c : Cf} {S0 H0 S H S' H' : Hp} {G : List Ow} {σ : St} {r : Rho}
theorem SlotOk.o_of {k : Ow} {v : V} {d : D} (h : SlotOk c H0 S H k v d) (q : isO k) : ∃ p ho, v = .ref p ∧ H p = some ho ∧ S p = none ∧ H0 p = none ∧ RpO c.K c.cm S ho d := by
  cases k with
  | o => exact h
  | i a => exact h.2
  | _ => cases q
theorem SlotOk.mono {k : Ow} {v : V} {d : D} (h : SlotOk c H0 S H k v d) (f : Fwd S H S' H') : SlotOk c H0 S' H' k v d := by
  cases k with
  | v => exact Rp.mono f.s h
  | o =>
    obtain ⟨p, ho, h1, h2, h3, h4, h5⟩ := h
    refine ⟨p, ho, h1, (f.h p _ h2).of h5.nt, ?_, h4, h5.mono f.s⟩
    cases e : S' p with
    | none => rfl
    | some u => obtain ⟨ys, z⟩ := (f.new p u e h3).not h2; subst z; cases h5
  | i a =>
    obtain ⟨h0, p, ho, h1, h2, h3, h4, h5⟩ := h
    refine ⟨h0, p, ho, h1, (f.h p _ h2).of h5.nt, ?_, h4, h5.mono f.s⟩
    cases e : S' p with
    | none => rfl
    | some u => obtain ⟨ys, z⟩ := (f.new p u e h3).not h2; subst z; cases h5
  | b => exact RpB.mono h f.s Ex.refl
  | j a fs => exact h
  | s P => exact h
  | w => exact h
  | x a C dd =>
    obtain ⟨h1, n, ns, ds, fs, h2, h3, h4, h5, h6⟩ := h
    exact ⟨h1, n, ns, ds, fs, h2, h3, f.s _ _ h4, h5, h6.mono f.s⟩
theorem EnvOk.go (e : EnvOk c S0 H0 G S H σ r) (f : Fwd S H S' H') : EnvOk c S0 H0 G S' H' σ r :=
  ⟨e.fwd.trans f, e.len, fun i d h => let ⟨v, h1, h2⟩ := e.slot i d h; ⟨v, h1, h2.mono f⟩, e.sep, let ⟨A, h⟩ := e.sto; ⟨A, h.go f⟩⟩
theorem EnvOk.ex (e : EnvOk c S0 H0 G S H σ r) : Ex S H := e.fwd.sub
theorem EnvOk.tab0 (e : EnvOk c S0 H0 G S H σ r) : ∀ P q, c.tb P q → LamX.TabS H0 P q := let ⟨_, hA⟩ := e.sto; hA.tab
/-- the tables of code objects that the def may use -/
theorem EnvOk.tab (e : EnvOk c S0 H0 G S H σ r) {P : Addr} (h : c.tb P lamN) : LamX.TabS H P lamN := e.fwd.tb P (e.tab0 P lamN h)
theorem kd_set_self (G : List Ow) (i : Nat) : kd (G.set i .v) i = .v := by
  show (G.set i .v).getD i .v = .v
  rw [List.getD_eq_getElem?_getD, List.getElem?_set]
  split
  · split <;> rfl
  · rename_i h; exact absurd rfl h
theorem kd_set_ne {G : List Ow} {i j : Nat} {k : Ow} (h : i ≠ j) : kd (G.set i k) j = kd G j := by
  show (G.set i k).getD j .v = G.getD j .v
  rw [List.getD_eq_getElem?_getD, List.getD_eq_getElem?_getD, List.getElem?_set_ne h]
theorem kd_set_o {G : List Ow} {i : Nat} {k : Ow} (h : i < G.length) : kd (G.set i k) i = k := by
  show (G.set i k).getD i .v = k
  rw [List.getD_eq_getElem?_getD, List.getElem?_set_self h]; rfl
theorem set_some {α : Type} {l : List (Option α)} {i j : Nat} {a : Option α} {b : α} (h : (l.set i a)[j]? = some (some b)) : (i = j ∧ a = some b ∧ i < l.length) ∨ (i ≠ j ∧ l[j]? = some (some b)) := by
  by_cases e : i = j
  · subst e
    rw [List.getElem?_set] at h
    rw [if_pos rfl] at h
    split at h
    · rename_i hl; exact .inl ⟨rfl, Option.some.inj h, hl⟩
    · cases h
  · rw [List.getElem?_set_ne e] at h
    exact .inr ⟨e, h⟩
/-- a slot gets a value -/
theorem EnvOk.setV (e : EnvOk c S0 H0 G S H σ r) {v : V} {d : D} (i : Nat) (h : Rp c.K c.cm S v d) : EnvOk c S0 H0 (G.set i .v) S H (σ.set i (some v)) (r.set i (some d)) := by
  refine ⟨e.fwd, by simp [e.len], fun j b hb => ?_, fun j k b b' p hj hk kj kk sj sk => ?_, let ⟨A, hA⟩ := e.sto; ⟨A, hA.sub (fun a ha => (hA.out a ha).1) (fun _ _ => rfl) Ex.refl (fun j b q hj kj sj => ?_) fun j b kj hj => ?_⟩⟩
  · rcases set_some hb with ⟨rfl, ea, hl⟩ | ⟨ne, hb⟩
    · cases ea
      exact ⟨v, by rw [List.getElem?_set_self (by rw [e.len]; exact hl)], by rw [kd_set_self]; exact h⟩
    · obtain ⟨u, h1, h2⟩ := e.slot j b hb
      exact ⟨u, by rw [List.getElem?_set_ne ne]; exact h1, by rw [kd_set_ne ne]; exact h2⟩
  · have nj : i ≠ j := fun z => by subst z; rw [kd_set_self] at kj; cases kj
    have nk : i ≠ k := fun z => by subst z; rw [kd_set_self] at kk; cases kk
    rw [List.getElem?_set_ne nj] at hj sj
    rw [List.getElem?_set_ne nk] at hk sk
    rw [kd_set_ne nj] at kj
    rw [kd_set_ne nk] at kk
    exact e.sep j k b b' p hj hk kj kk sj sk
  · have nj : i ≠ j := fun z => by subst z; rw [kd_set_self] at kj; cases kj
    rw [List.getElem?_set_ne nj] at hj sj
    rw [kd_set_ne nj] at kj
    exact hA.own j b q hj kj sj
  · have nj : i ≠ j := fun z => by subst z; rw [kd_set_self] at kj; rcases kj with ⟨_, kj⟩ | kj <;> cases kj
    rw [List.getElem?_set_ne nj] at hj
    rw [kd_set_ne nj, List.getElem?_set_ne nj]
    exact ⟨rfl, hj, rfl⟩
/-- a slot gets a new mutable object -/
theorem EnvOk.setO (e : EnvOk c S0 H0 G S H σ r) (f : Fwd S H S' H') {p : Addr} {ho : HO} {d : D} (i : Nat) (hi : i < G.length) (n : H p = none) (ns : S' p = none) (hp : H' p = some ho) (h : RpO c.K c.cm S' ho d) :
    EnvOk c S0 H0 (G.set i .o) S' H' (σ.set i (some (.ref p))) (r.set i (some d)) := by
  have e' := e.go f
  have fresh : ∀ j b, r[j]? = some (some b) → isO (kd G j) → σ[j]? ≠ some (some (.ref p)) := fun j b hb kj sj => by
    obtain ⟨u, h1, h2⟩ := e.slot j b hb
    obtain ⟨q, ho', z1, z2, _⟩ := h2.o_of kj
    rw [sj] at h1; cases h1; cases z1
    rw [n] at z2; cases z2
  refine ⟨e'.fwd, by simp [e.len], fun j b hb => ?_, fun j k b b' q hj hk kj kk sj sk => ?_, let ⟨A, hA⟩ := e.sto; ⟨A, (hA.go f).sub (fun a ha => ((hA.go f).out a ha).1) (fun _ _ => rfl) Ex.refl (fun j b q hj kj sj => ?_) fun j b kj hj => ?_⟩⟩
  · rcases set_some hb with ⟨rfl, ea, hl⟩ | ⟨ne, hb⟩
    · cases ea
      refine ⟨.ref p, by rw [List.getElem?_set_self (by rw [e.len]; exact hl)], ?_⟩
      rw [kd_set_o hi]
      exact ⟨p, ho, rfl, hp, ns, e.fwd.h.nn n, h⟩
    · obtain ⟨u, h1, h2⟩ := e'.slot j b hb
      exact ⟨u, by rw [List.getElem?_set_ne ne]; exact h1, by rw [kd_set_ne ne]; exact h2⟩
  · by_cases nj : i = j
    · by_cases nk : i = k
      · rw [← nj, nk]
      · subst nj
        exfalso
        rcases set_some sj with ⟨_, ea, _⟩ | ⟨ne, _⟩
        · cases ea
          rw [List.getElem?_set_ne nk] at hk sk
          rw [kd_set_ne nk] at kk
          exact fresh k _ hk kk sk
        · exact ne rfl
    · by_cases nk : i = k
      · subst nk
        exfalso
        rcases set_some sk with ⟨_, ea, _⟩ | ⟨ne, _⟩
        · cases ea
          rw [List.getElem?_set_ne nj] at hj sj
          rw [kd_set_ne nj] at kj
          exact fresh j _ hj kj sj
        · exact ne rfl
      · rw [List.getElem?_set_ne nj] at hj sj
        rw [List.getElem?_set_ne nk] at hk sk
        rw [kd_set_ne nj] at kj
        rw [kd_set_ne nk] at kk
        exact e.sep j k b b' q hj hk kj kk sj sk
  · rcases set_some sj with ⟨_, ea, _⟩ | ⟨nj, sj⟩
    · cases ea
      intro ha
      obtain ⟨_, _, xs, h3⟩ := hA.out p ha
      rw [n] at h3; cases h3
    · rw [List.getElem?_set_ne nj] at hj
      rw [kd_set_ne nj] at kj
      exact hA.own j b q hj kj sj
  · have nj : i ≠ j := fun z => by subst z; rw [kd_set_o hi] at kj; rcases kj with ⟨_, kj⟩ | kj <;> cases kj
    rw [List.getElem?_set_ne nj] at hj
    rw [kd_set_ne nj, List.getElem?_set_ne nj]
    exact ⟨rfl, hj, rfl⟩
/-- the own object in slot i: its place -/
theorem EnvOk.ownI (e : EnvOk c S0 H0 G S H σ r) {i : Nat} {d : D} (k : isO (kd G i)) (h : r[i]? = some (some d)) : ∃ p ho, σ[i]? = some (some (.ref p)) ∧ H p = some ho ∧ S p = none ∧ H0 p = none ∧ RpO c.K c.cm S ho d := by
  obtain ⟨v, h1, h2⟩ := e.slot i d h
  obtain ⟨p, ho, rfl, h3⟩ := h2.o_of k
  exact ⟨p, ho, h1, h3⟩
/-- the own object in slot i is changed -/
theorem EnvOk.mutI (e : EnvOk c S0 H0 G S H σ r) {i : Nat} {d d' : D} {p : Addr} {ho' : HO} (k : isO (kd G i)) (h : r[i]? = some (some d)) (hs : σ[i]? = some (some (.ref p))) (h' : RpO c.K c.cm S ho' d') :
    EnvOk c S0 H0 G S (upd H p ho') σ (r.set i (some d')) := by
  obtain ⟨q, ho, s1, s2, s3, s4, s5⟩ := e.ownI k h
  rw [hs] at s1; cases s1
  have hf : Fwd S0 H0 S (upd H p ho') := ⟨e.fwd.s, e.fwd.h.put s4, e.fwd.sub.put s3, e.fwd.new, e.fwd.tb.trans (Tk.mut s2 s5)⟩
  refine ⟨hf, by simp [e.len], fun j b hb => ?_, fun j l b b' q hj hk kj kk sj sk => ?_, let ⟨A, hA⟩ := e.sto; ⟨A, hA.sub (fun a ha => (hA.out a ha).1) (fun a ha => upd_ne fun z => hA.own i d p h k hs (z ▸ ha)) Ex.refl (fun j b q hj kj sj => ?_) fun j b kj hj => ?_⟩⟩
  · rcases set_some hb with ⟨rfl, ea, hl⟩ | ⟨ne, hb⟩
    · cases ea
      refine ⟨.ref p, hs, ?_⟩
      cases kk : kd G i with
      | o => exact ⟨p, ho', rfl, upd_same, s3, s4, h'⟩
      | i a =>
        obtain ⟨u, h1, h2⟩ := e.slot i d h
        rw [kk] at h2
        rw [hs] at h1; cases h1
        exact ⟨h2.1, p, ho', rfl, upd_same, s3, s4, h'⟩
      | _ => rw [kk] at k; cases k
    · obtain ⟨u, h1, h2⟩ := e.slot j b hb
      refine ⟨u, h1, ?_⟩
      cases kj : kd G j with
      | v => rw [kj] at h2; exact h2
      | b => rw [kj] at h2; exact h2
      | s P => rw [kj] at h2; exact h2
      | w => rw [kj] at h2; exact h2
      | j a0 fs0 => rw [kj] at h2; exact h2
      | x a C dd => rw [kj] at h2; exact h2
      | o =>
        rw [kj] at h2
        obtain ⟨q, hq, z1, z2, z3, z4, z5⟩ := h2
        subst z1
        have : q ≠ p := fun z => by subst z; exact ne (e.sep i j d b q h hb k (by rw [kj]; trivial) hs h1)
        exact ⟨q, hq, rfl, by rw [upd_ne this]; exact z2, z3, z4, z5⟩
      | i a =>
        rw [kj] at h2
        obtain ⟨z0, q, hq, z1, z2, z3, z4, z5⟩ := h2
        subst z1
        have : q ≠ p := fun z => by subst z; exact ne (e.sep i j d b q h hb k (by rw [kj]; trivial) hs h1)
        exact ⟨z0, q, hq, rfl, by rw [upd_ne this]; exact z2, z3, z4, z5⟩
  · have un : ∀ m b, (r.set i (some d'))[m]? = some (some b) → ∃ b', r[m]? = some (some b') := fun m b hm => by
      rcases set_some hm with ⟨rfl, _, _⟩ | ⟨_, hm⟩
      · exact ⟨d, h⟩
      · exact ⟨b, hm⟩
    obtain ⟨b1, hj⟩ := un j b hj
    obtain ⟨b2, hk⟩ := un l b' hk
    exact e.sep j l b1 b2 q hj hk kj kk sj sk
  · rcases set_some hj with ⟨nj, _, _⟩ | ⟨_, hj⟩
    · subst nj
      exact hA.own i d q h kj sj
    · exact hA.own j b q hj kj sj
  · rcases set_some hj with ⟨nj, _, _⟩ | ⟨_, hj⟩
    · subst nj
      rcases kj with ⟨_, kj⟩ | kj <;> (rw [kj] at k; cases k)
    · exact ⟨rfl, hj, rfl⟩
theorem isO_o {k : Ow} (h : k = .o) : isO k := by rw [h]; trivial
theorem EnvOk.own (e : EnvOk c S0 H0 G S H σ r) {i : Nat} {d : D} (k : kd G i = .o) (h : r[i]? = some (some d)) : ∃ p ho, σ[i]? = some (some (.ref p)) ∧ H p = some ho ∧ S p = none ∧ H0 p = none ∧ RpO c.K c.cm S ho d := e.ownI (isO_o k) h
theorem EnvOk.mut (e : EnvOk c S0 H0 G S H σ r) {i : Nat} {d d' : D} {p : Addr} {ho' : HO} (k : kd G i = .o) (h : r[i]? = some (some d)) (hs : σ[i]? = some (some (.ref p))) (h' : RpO c.K c.cm S ho' d') :
    EnvOk c S0 H0 G S (upd H p ho') σ (r.set i (some d')) := e.mutI (isO_o k) h hs h'
theorem StoOk.un {A : List Addr} (hA : StoOk c.K c.cm c.tb H0 G S H σ r A) (i : Nat) (hk : kd G i = .o ∨ kd G i = .v) (hS : ∀ a ∈ A, S' a = none) (eS : Ex S S') : StoOk c.K c.cm c.tb H0 (G.set i .v) S' H σ r A :=
  hA.sub hS (fun _ _ => rfl) eS (fun j b q hj kj sj => by
    have nj : i ≠ j := fun z => by subst z; rw [kd_set_self] at kj; cases kj
    rw [kd_set_ne nj] at kj
    exact hA.own j b q hj kj sj) fun j b kj hj => by
    have nj : i ≠ j := fun z => by subst z; rw [kd_set_self] at kj; rcases kj with ⟨_, kj⟩ | kj <;> cases kj
    rw [kd_set_ne nj]
    exact ⟨rfl, hj, rfl⟩
theorem EnvOk.sto_un (e : EnvOk c S0 H0 G S H σ r) (i : Nat) (hk : kd G i = .o ∨ kd G i = .v) : ∃ A, StoOk c.K c.cm c.tb H0 (G.set i .v) S H σ r A :=
  let ⟨A, hA⟩ := e.sto
  ⟨A, hA.un i hk (fun a ha => (hA.out a ha).1) Ex.refl⟩
/-- the own object in slot i becomes a value, as ho2 -/
theorem EnvOk.pubG (e : EnvOk c S0 H0 G S H σ r) (i : Nat) (k : kd G i = .o) {d : D} (h : r[i]? = some (some d)) {p : Addr} {ho ho2 : HO} (s1 : σ[i]? = some (some (.ref p))) (s2 : H p = some ho) (s3 : S p = none) (s4 : H0 p = none) (hrp : Rp c.K c.cm (upd S p ho2) (.ref p) d) :
    EnvOk c S0 H0 (G.set i .v) (upd S p ho2) (upd H p ho2) σ r := by
  have hk : kd G i = .o ∨ kd G i = .v := .inl k
  have ex : Ex S (upd S p ho2) := Ex.new s3
  have tk : Tk H (upd H p ho2) := by
    obtain ⟨q, ho1, t1, t2, _, _, t5⟩ := e.own k h
    rw [s1] at t1; cases t1
    exact Tk.mut t2 t5
  refine ⟨⟨e.fwd.s.trans ex, e.fwd.h.put s4, e.fwd.sub.both, fun a u ha m => ?_, e.fwd.tb.trans tk⟩, e.len, fun j b hb => ?_, fun j l b b' q hj hk kj kk sj sk => ?_, let ⟨A, hA⟩ := e.sto; ⟨A, ?_⟩⟩
  · by_cases hh : a = p
    · subst hh; exact .inl s4
    · rw [upd_ne hh] at ha; exact e.fwd.new a u ha m
  · by_cases ne : i = j
    · subst ne
      rw [h] at hb; cases hb
      refine ⟨.ref p, s1, ?_⟩
      rw [kd_set_self]
      exact hrp
    · obtain ⟨u, h1, h2⟩ := e.slot j b hb
      refine ⟨u, h1, ?_⟩
      rw [kd_set_ne ne]
      cases kj : kd G j with
      | v => rw [kj] at h2; exact Rp.mono ex h2
      | b => rw [kj] at h2; exact RpB.mono h2 ex Ex.refl
      | s P => rw [kj] at h2; exact h2
      | w => rw [kj] at h2; exact h2
      | j a0 fs0 => rw [kj] at h2; exact h2
      | x a C dd =>
        rw [kj] at h2
        obtain ⟨y1, n, ns, ds, fs, y2, y3, y4, y5, y6⟩ := h2
        exact ⟨y1, n, ns, ds, fs, y2, y3, ex _ _ y4, y5, y6.mono ex⟩
      | o =>
        rw [kj] at h2
        obtain ⟨q, hq, z1, z2, z3, z4, z5⟩ := h2
        subst z1
        have : q ≠ p := fun z => by subst z; exact ne (e.sep i j d b q h hb (isO_o k) (isO_o kj) s1 h1)
        exact ⟨q, hq, rfl, by rw [upd_ne this]; exact z2, by rw [upd_ne this]; exact z3, z4, z5.mono ex⟩
      | i a =>
        rw [kj] at h2
        obtain ⟨z0, q, hq, z1, z2, z3, z4, z5⟩ := h2
        subst z1
        have : q ≠ p := fun z => by subst z; exact ne (e.sep i j d b q h hb (isO_o k) (by rw [kj]; trivial) s1 h1)
        exact ⟨z0, q, hq, rfl, by rw [upd_ne this]; exact z2, by rw [upd_ne this]; exact z3, z4, z5.mono ex⟩
  · have nj : i ≠ j := fun z => by subst z; rw [kd_set_self] at kj; cases kj
    have nl : i ≠ l := fun z => by subst z; rw [kd_set_self] at kk; cases kk
    rw [kd_set_ne nj] at kj
    rw [kd_set_ne nl] at kk
    exact e.sep j l b b' q hj hk kj kk sj sk
  · have np : ∀ a ∈ A, a ≠ p := fun a ha z => hA.own i d p h (isO_o k) s1 (z ▸ ha)
    refine hA.sub (fun a ha => by rw [upd_ne (np a ha)]; exact (hA.out a ha).1) (fun a ha => upd_ne (np a ha)) ex (fun j b q hj kj sj => ?_) fun j b kj hj => ?_
    · have nj : i ≠ j := fun z => by subst z; rw [kd_set_self] at kj; cases kj
      rw [kd_set_ne nj] at kj
      exact hA.own j b q hj kj sj
    · have nj : i ≠ j := fun z => by subst z; rw [kd_set_self] at kj; rcases kj with ⟨_, kj⟩ | kj <;> cases kj
      rw [kd_set_ne nj]
      exact ⟨rfl, hj, rfl⟩
theorem upd_eq {H : Hp} {p : Addr} {o : HO} (h : H p = some o) : upd H p o = H := by
  funext a
  by_cases e : a = p
  · rw [e, upd_same, h]
  · rw [upd_ne e]
/-- an own dict becomes a value: it is locked -/
theorem EnvOk.pubD (e : EnvOk c S0 H0 G S H σ r) (i : Nat) (k : kd G i = .o) {d : D} (h : r[i]? = some (some d)) (hd : isDct d = true) : ∃ p u, H p = some u ∧ Mut (some u) ∧ ∀ w, ∃ S', EnvOk c S0 H0 (G.set i .v) S' (upd H p (.frz w u)) σ r := by
  obtain ⟨p, ho, s1, s2, s3, s4, s5⟩ := e.own k h
  exact ⟨p, ho, s2, s5.mut, fun w => ⟨_, e.pubG i k h s1 s2 s3 s4 ((s5.mono (Ex.new s3)).pubD hd upd_same).1⟩⟩
/-- the own object in slot i becomes a value -/
theorem EnvOk.pub (e : EnvOk c S0 H0 G S H σ r) (i : Nat) (hk : kd G i = .o ∨ kd G i = .v) (nd : ∀ d, r[i]? = some (some d) → isDct d = false) : ∃ S', EnvOk c S0 H0 (G.set i .v) S' H σ r := by
  by_cases k : kd G i = .o
  · cases h : r[i]? with
    | none =>
      refine ⟨S, e.fwd, e.len, fun j b hb => ?_, fun j l b b' q hj hk kj kk sj sk => ?_, e.sto_un i hk⟩
      · have ne : i ≠ j := fun z => by subst z; rw [h] at hb; cases hb
        obtain ⟨u, h1, h2⟩ := e.slot j b hb
        exact ⟨u, h1, by rw [kd_set_ne ne]; exact h2⟩
      · have nj : i ≠ j := fun z => by subst z; rw [h] at hj; cases hj
        have nl : i ≠ l := fun z => by subst z; rw [h] at hk; cases hk
        rw [kd_set_ne nj] at kj
        rw [kd_set_ne nl] at kk
        exact e.sep j l b b' q hj hk kj kk sj sk
    | some od =>
      cases od with
      | none =>
        refine ⟨S, e.fwd, e.len, fun j b hb => ?_, fun j l b b' q hj hk kj kk sj sk => ?_, e.sto_un i hk⟩
        · have ne : i ≠ j := fun z => by subst z; rw [h] at hb; cases hb
          obtain ⟨u, h1, h2⟩ := e.slot j b hb
          exact ⟨u, h1, by rw [kd_set_ne ne]; exact h2⟩
        · have nj : i ≠ j := fun z => by subst z; rw [h] at hj; cases hj
          have nl : i ≠ l := fun z => by subst z; rw [h] at hk; cases hk
          rw [kd_set_ne nj] at kj
          rw [kd_set_ne nl] at kk
          exact e.sep j l b b' q hj hk kj kk sj sk
      | some d =>
        obtain ⟨p, ho, s1, s2, s3, s4, s5⟩ := e.own k h
        have := e.pubG i k h s1 s2 s3 s4 (ho2 := ho) ((s5.mono (Ex.new s3)).pub (nd d h) upd_same)
        rw [upd_eq s2] at this
        exact ⟨_, this⟩
  · have k' : kd G i = .v := hk.resolve_left k
    have all : ∀ j, kd (G.set i .v) j = kd G j := fun j => by
      by_cases ne : i = j
      · subst ne; rw [kd_set_self, k']
      · exact kd_set_ne ne
    exact ⟨S, e.fwd, e.len, fun j b hb => by rw [all]; exact e.slot j b hb, fun j l b b' q hj hk kj kk sj sk => e.sep j l b b' q hj hk ((all j) ▸ kj) ((all l) ▸ kk) sj sk, e.sto_un i hk⟩
end
end Dx
end S_DxA
section S_DxB
set_option Elab.async false
set_option linter.all false
set_option maxRecDepth 100000
set_option maxHeartbeats 2000000
namespace Dx
open PySem L2
/-- what is wanted behind a result, from (S, H) on -/
def PostG (c : Cf) (σ : St) (S H : Hp) {α : Type} (r : Res α) (k : α → Hp → Hp → Prop) : Prop :=
  match r with
  | .ok a => ∀ S' H', Fwd S H S' H' → k a S' H'
  | .err n ns vs => ∀ C dd S' H' fs, c.cm n = some C → Fwd S H S' H' → S' dd = some (.xd fs) → ns = fs.map (·.1) → RpA c.K c.cm S' (fs.map (·.2)) vs → c.W (.ref C) (some dd) σ H'
  | .bad => False
section
variable {c : Cf} {σ : St} {S H S1 H1 : Hp} {α β : Type} {r : Res α} {k k' : α → Hp → Hp → Prop}
theorem PostG.mono (h : PostG c σ S H r k) (f : Fwd S H S1 H1) : PostG c σ S1 H1 r k := by
  cases r with
  | ok a => exact fun S' H' g => h S' H' (f.trans g)
  | err n ns vs => exact fun C dd S' H' fs h1 g h2 h3 h4 => h C dd S' H' fs h1 (f.trans g) h2 h3 h4
  | bad => exact h
theorem PostG.imp (h : PostG c σ S H r k) (hk : ∀ a S' H', Fwd S H S' H' → k a S' H' → k' a S' H') : PostG c σ S H r k' := by
  cases r with
  | ok a => exact fun S' H' g => hk a S' H' g (h S' H' g)
  | err n ns vs => exact h
  | bad => exact h
theorem PostG.unbind {g : α → Res β} {k : β → Hp → Hp → Prop} (h : PostG c σ S H (r.bind g) k) : PostG c σ S H r fun a S' H' => PostG c σ S' H' (g a) k := by
  cases r with
  | ok a => exact fun S' H' f => PostG.mono (show PostG c σ S H (g a) k from h) f
  | err n ns vs => exact h
  | bad => exact h
end
/-- x where p holds; nothing is reckoned for it -/
noncomputable def guard {α : Type} (p : Prop) (x : Res α) : Res α := @ite _ p (Classical.propDecidable p) x .bad
theorem guard_pos {α : Type} {p : Prop} {x : Res α} (h : p) : guard p x = x := by unfold guard; exact if_pos h
theorem PostG.gd {c : Cf} {σ : St} {S H : Hp} {α : Type} {p : Prop} {x : Res α} {k : α → Hp → Hp → Prop} (h : PostG c σ S H (guard p x) k) : p ∧ PostG c σ S H x k := by
  by_cases hp : p
  · rw [guard_pos hp] at h; exact ⟨hp, h⟩
  · unfold guard at h; rw [if_neg hp] at h; exact h.elim
/-- a mode: what the heap ahead, the heaps behind, the machine's result and the data have in common -/
abbrev Md (β α : Type) := Hp → Hp → Hp → β → α → Prop
class Anti {β α : Type} (R : Md β α) : Prop where
  anti : ∀ {H H2 S' H' : Hp} {b : β} {a : α}, Ex H H2 → R H2 S' H' b a → R H S' H' b a
def mV (c : Cf) : Md V D := fun _ S' _ v d => Rp c.K c.cm S' v d
def mB (c : Cf) : Md V D := fun _ S' H' v d => RpB c.K c.cm S' H' v d
def mO (c : Cf) : Md V D := fun H S' H' v d => ∃ p ho, v = .ref p ∧ H p = none ∧ S' p = none ∧ H' p = some ho ∧ RpO c.K c.cm S' ho d
def mA (c : Cf) : Md (List V) (List D) := fun _ S' _ vs ds => RpA c.K c.cm S' vs ds
def mE (α : Type) : Md α α := fun _ _ _ b a => b = a
instance {c : Cf} : Anti (mV c) := ⟨fun _ h => h⟩
instance {c : Cf} : Anti (mB c) := ⟨fun _ h => h⟩
instance {c : Cf} : Anti (mA c) := ⟨fun _ h => h⟩
instance {α : Type} : Anti (mE α) := ⟨fun _ h => h⟩
instance {c : Cf} : Anti (mO c) := ⟨fun e ⟨p, ho, h1, h2, h3⟩ => ⟨p, ho, h1, e.nn h2, h3⟩⟩
/-- the reading of a piece whose data is f -/
def rd (c : Cf) (G : List Ow) {α β : Type} (f : Rho → Res α) (R : Md β α) : St → Hp → (β → Hp → Prop) → Prop := fun σ H Q =>
  ∃ S0 H0 S r, EnvOk c S0 H0 G S H σ r ∧ PostG c σ S H (f r) fun a S' H' => ∀ b, R H S' H' b a → Q b H'
abbrev tV (c : Cf) (G : List Ow) (f : Rho → Res D) : TE := rd c G f (mV c)
abbrev tR (c : Cf) (G : List Ow) (f : Rho → Res D) : TE := rd c G f (mB c)
abbrev tO (c : Cf) (G : List Ow) (f : Rho → Res D) : TE := rd c G f (mO c)
abbrev tT (c : Cf) (G : List Ow) (f : Rho → Res Bool) : TT := rd c G f (mE Bool)
abbrev tAs (c : Cf) (G : List Ow) (f : Rho → Res (List D)) : TA := rd c G f (mA c)
theorem pe_imp {X : Cx} {e : Expr} {t t' : TE} (h : PE X e t) (k : ∀ σ H Q, t' σ H Q → t σ H Q) : PE X e t' := ⟨fun pins s σ H Q I q => h.run pins s σ H Q I (k σ H Q q)⟩
theorem pt_imp {X : Cx} {e : Expr} {t t' : TT} (h : PT X e t) (k : ∀ σ H Q, t' σ H Q → t σ H Q) : PT X e t' := ⟨fun pins s σ H Q I q => h.run pins s σ H Q I (k σ H Q q)⟩
theorem pa_imp {X : Cx} {es : List Expr} {t t' : TA} (h : PA X es t) (k : ∀ σ H Q, t' σ H Q → t σ H Q) : PA X es t' := ⟨fun p pins s σ H Q I q => h.run p pins s σ H Q I (k σ H Q q)⟩
theorem ps_imp {X : Cx} {st : Stmt} {t t' : TS} (h : PS X st t) (k : ∀ E σ H, t' E σ H → t E σ H) : PS X st t' := ⟨fun pins s σ H E I q => h.run pins s σ H E I (k E σ H q)⟩
theorem pss_imp {X : Cx} {st : List Stmt} {t t' : TS} (h : PSs X st t) (k : ∀ E σ H, t' E σ H → t E σ H) : PSs X st t' := ⟨fun pins s σ H E I q => h.run pins s σ H E I (k E σ H q)⟩
section
variable {c : Cf} {G : List Ow} {σ : St} {S0 H0 S H : Hp} {r : Rho} {α β γ : Type}
/-- one piece, then what follows -/
theorem rd_seq {f : Rho → Res α} {R : Md β α} (e : EnvOk c S0 H0 G S H σ r) {g : α → Res γ} {k : γ → Hp → Hp → Prop} (p : PostG c σ S H ((f r).bind g) k) {Q : β → Hp → Prop}
    (h : ∀ a b S' H', Fwd S H S' H' → EnvOk c S0 H0 G S' H' σ r → R H S' H' b a → PostG c σ S' H' (g a) k → Q b H') : rd c G f R σ H Q :=
  ⟨S0, H0, S, r, e, p.unbind.imp fun a S' H' fw hk b hb => h a b S' H' fw (e.go fw) hb hk⟩
theorem PostG.anti {R : Md β α} [Anti R] {H2 : Hp} {x : Res α} {Q : β → Hp → Prop} (e : Ex H H2) {S2 : Hp} (p : PostG c σ S2 H2 x fun a S' H' => ∀ b, R H S' H' b a → Q b H') :
    PostG c σ S2 H2 x fun a S' H' => ∀ b, R H2 S' H' b a → Q b H' := p.imp fun _ _ _ _ hk b hb => hk b (Anti.anti e hb)
/-- the wish behind a value that is there -/
theorem PostG.here {R : Md β α} {a : α} {b : β} {Q : β → Hp → Prop} (p : PostG c σ S H (.ok a) fun a S' H' => ∀ b, R H S' H' b a → Q b H') (e : Ex S H) (h : R H S H b a) : Q b H := p S H (Fwd.refl e) b h
theorem PostG.go {a : α} {k : α → Hp → Hp → Prop} (p : PostG c σ S H (.ok a) k) (e : Ex S H) : k a S H := p S H (Fwd.refl e)
/-- .. behind a new object that stays; that is kept own -/
theorem PostG.laid {d : D} {o : HO} {q : Addr} {Q : VK} (p : PostG c σ S H (.ok d) fun a S' H' => ∀ b, mV c H S' H' b a → Q b H') (e : Ex S H) (n : H q = none) (h : Rp c.K c.cm (upd S q o) (.ref q) d) : Q (.ref q) (upd H q o) :=
  p _ _ (Fwd.both e n) _ h
theorem PostG.kept {d : D} {o : HO} {q : Addr} {Q : VK} (p : PostG c σ S H (.ok d) fun a S' H' => ∀ b, mO c H S' H' b a → Q b H') (e : Ex S H) (n : H q = none) (h : RpO c.K c.cm S o d) : Q (.ref q) (upd H q o) :=
  p _ _ (Fwd.heap e n) _ ⟨q, o, rfl, n, e.nn n, upd_same, h⟩
end
/-- .. or so as soon as a told object is locked -/
def Lo (Q : Hp → Prop) (H : Hp) : Prop := Q H ∨ ∃ p u, H p = some u ∧ Mut (some u) ∧ ∀ w, Q (upd H p (.frz w u))
theorem Fwd.pubF {S H S' H' : Hp} {p : Addr} {o : HO} (f : Fwd S H S' H') (n : H p = none) (ns : S' p = none) (tk : Tk H' (upd H' p o)) : Fwd S H (upd S' p o) (upd H' p o) :=
  ⟨f.s.trans (Ex.new ns), f.h.put n, f.sub.both, fun a u ha m => (by
    by_cases hh : a = p
    · subst hh; exact .inl n
    · rw [upd_ne hh] at ha; exact f.new a u ha m), f.tb.trans tk⟩
section
variable {X : Cx}
theorem pe_lock {e : Expr} {t t2 : TE} (h : PE X e t) (k : ∀ σ H Q, t2 σ H Q → t σ H fun v H' => Lo (Q v) H') : PE X e t2 := ⟨fun pins s σ H Q I q => thn (h.run pins s σ H _ I (k _ _ _ q)) fun u s' ⟨v, H', I', r, z⟩ => by
  rcases z with z | ⟨p, ho, h1, h2, z⟩
  · exact ⟨v, H', I', r, z⟩
  · obtain ⟨od, I2⟩ := I'.lock h1 h2
    exact ⟨v, _, I2, r, z od⟩⟩
theorem pss_lock {st : List Stmt} {t t2 : TS} (h : PSs X st t) (k : ∀ E σ H, t2 E σ H → Lo (fun H => t E σ H) H) : PSs X st t2 := ⟨fun pins s σ H E I q => by
  rcases k _ _ _ q with z | ⟨p, ho, h1, h2, z⟩
  · exact h.run pins s σ H E I z
  · obtain ⟨od, I2⟩ := I.lock h1 h2
    exact h.run pins s σ _ E I2 (z od)⟩
theorem pss_lockE {st : List Stmt} {t t2 : TS} (h : PSs X st t) (k : ∀ (E : Ends) σ H, t2 E σ H → t { E with nx := fun σ H => Lo (E.nx σ) H } σ H) : PSs X st t2 := ⟨fun pins s σ H E I q => thn (h.run pins s σ H _ I (k _ _ _ q)) fun f s' z => by
  cases f with
  | next =>
    obtain ⟨σ', H', I', z⟩ := z
    rcases z with z | ⟨p, ho, h1, h2, z⟩
    · exact ⟨σ', H', I', z⟩
    · obtain ⟨od, I2⟩ := I'.lock h1 h2
      exact ⟨σ', _, I2, z od⟩
  | brk => exact z
  | cont => exact z
  | ret u => exact z⟩
end
section
variable {X : Cx} {c : Cf} {G : List Ow} {f f1 f2 : Rho → Res D} {a b e : Expr} {pos : Pos}
theorem de_pub (h : PE X e (tO c G f)) : PE X e (tV c G f) := pe_lock h fun σ H Q ⟨S0, H0, S, r, ok, p⟩ => ⟨S0, H0, S, r, ok, by
  revert p
  cases f r with
  | ok d =>
    intro p S' H' fw b hb
    obtain ⟨q, ho, rfl, h1, h2, h3, h4⟩ := hb
    cases hd : isDct d with
    | false =>
      have fw' := fw.pub h1 h2 h3
      exact .inl (p _ H' fw' _ ((h4.mono (Ex.new h2)).pub hd upd_same))
    | true => exact .inr ⟨q, ho, h3, h4.mut, fun w => p _ _ (fw.pubF h1 h2 (Tk.mut h3 h4)) _ ((h4.mono (Ex.new h2)).pubD hd upd_same).1⟩
  | err n ns vs => exact id
  | bad => exact id⟩
theorem db_of (h : PE X e (tV c G f)) : PE X e (tR c G f) := pe_imp h fun σ H Q ⟨S0, H0, S, r, ok, p⟩ => ⟨S0, H0, S, r, ok, p.imp fun _ _ _ _ hk b hb => hk b (.inl hb)⟩
theorem db_own (h : PE X e (tO c G f)) : PE X e (tR c G f) := db_of (de_pub h)
def dVar (i : Nat) : Rho → Res D := fun r => match r[i]? with
  | some (some d) => .ok d
  | _ => .bad
def dC (d : D) : Rho → Res D := fun _ => .ok d
theorem of_dVar {σ : St} {S H : Hp} {i : Nat} {r : Rho} {k : D → Hp → Hp → Prop} (p : PostG c σ S H (dVar i r) k) : ∃ d, r[i]? = some (some d) ∧ PostG c σ S H (.ok d) k := by
  unfold dVar at p
  split at p
  · exact ⟨_, by assumption, p⟩
  · exact p.elim
theorem de_var (i : Nat) {x : Str} (h : PE X (.Name x pos) (tVar i)) (k : kd G i = .v) : PE X (.Name x pos) (tV c G (dVar i)) := pe_imp h fun σ H Q ⟨S0, H0, S, r, ok, p⟩ => by
  obtain ⟨d, hd, p⟩ := of_dVar p
  obtain ⟨v, h1, h2⟩ := ok.slot i d hd
  rw [k] at h2
  exact ⟨v, h1, p.here ok.ex h2⟩
theorem db_var (i : Nat) {x : Str} (h : PE X (.Name x pos) (tVar i)) (k : kd G i = .v ∨ isO (kd G i) ∨ kd G i = .b) : PE X (.Name x pos) (tR c G (dVar i)) := pe_imp h fun σ H Q ⟨S0, H0, S, r, ok, p⟩ => by
  obtain ⟨d, hd, p⟩ := of_dVar p
  obtain ⟨v, h1, h2⟩ := ok.slot i d hd
  refine ⟨v, h1, p.here ok.ex ?_⟩
  rcases k with k | k | k
  · rw [k] at h2; exact .inl h2
  · obtain ⟨q, ho, z1, z2, z3, z4, z5⟩ := h2.o_of k
    exact .inr ⟨q, ho, z1, z2, z5⟩
  · rw [k] at h2
    exact RpB.mono h2 Ex.refl ok.fwd.h
theorem de_c {v : V} {d : D} (h : PE X e (tC v)) (hd : ∀ S, Rp c.K c.cm S v d) : PE X e (tV c G (dC d)) := pe_imp h fun σ H Q ⟨S0, H0, S, r, ok, p⟩ => p.here ok.ex (hd S)
theorem de_int {i : Int} {j : Nat} : PE X (.Constant (.int i) j pos) (tV c G (dC (.int i))) := de_c pe_int fun _ => .int i
theorem de_bl {b : Bool} {j : Nat} : PE X (.Constant (.bool b) j pos) (tV c G (dC (.bl b))) := de_c pe_bl fun _ => .bl b
theorem de_non {j : Nat} : PE X (.Constant .none j pos) (tV c G (dC .non)) := de_c pe_non fun _ => .non
theorem de_str {x : Str} {j : Nat} : PE X (.Constant (.str x) j pos) (tV c G (dC (.str x))) := de_c pe_str fun _ => .str x
def dOp (g : D → D → Res D) (f1 f2 : Rho → Res D) : Rho → Res D := fun r => (f1 r).bind fun x => (f2 r).bind fun y => g x y
def OpS (c : Cf) (R : Md V D) (r2 : R2) (g : D → D → Res D) : Prop := ∀ (σ : St) (S H : Hp) (x y : V) (d e : D) (Q : VK), Ex S H → RpB c.K c.cm S H x d → RpB c.K c.cm S H y e →
  PostG c σ S H (g d e) (fun a S' H' => ∀ b, R H S' H' b a → Q b H') → r2 x y H Q
theorem op_rd {R : Md V D} [Anti R] {r2 : R2} {g : D → D → Res D} (hs : OpS c R r2 g) : ∀ σ H Q, rd c G (dOp g f1 f2) R σ H Q → tOp r2 (tR c G f1) (tR c G f2) σ H Q := fun σ H Q ⟨S0, H0, S, r, ok, p⟩ =>
  rd_seq ok p fun x v S1 H1 w1 o1 m1 p1 => rd_seq o1 p1 fun y u S2 H2 w2 o2 m2 p2 => hs σ S2 H2 v u x y Q o2.ex (RpB.mono m1 w2.s w2.h) m2 (p2.anti (w1.h.trans w2.h))
theorem de_op {R : Md V D} [Anti R] {op : Operator} {r2 : R2} {g : D → D → Res D} (ho : OpR X (binaryOp op) r2) (hs : OpS c R r2 g) (ha : PE X a (tR c G f1)) (hb : PE X b (tR c G f2)) : PE X (.BinOp a op b pos) (rd c G (dOp g f1 f2) R) :=
  pe_imp (pe_op ho ha hb) (op_rd hs)
theorem de_cmp {R : Md V D} [Anti R] {op : CmpOp} {r2 : R2} {g : D → D → Res D} (ho : OpR X (compareOp op) r2) (hs : OpS c R r2 g) (ha : PE X a (tR c G f1)) (hb : PE X b (tR c G f2)) (hm : behindInMarks op b = false) :
    PE X (.Compare a [op] [b] pos) (rd c G (dOp g f1 f2) R) := pe_imp (pe_cmpR ho ha hb hm) (op_rd hs)
/-- a truth value as a test -/
def asB : D → Res Bool
  | .bl b => .ok b
  | _ => .bad
def dT (f : Rho → Res D) : Rho → Res Bool := fun r => (f r).bind asB
theorem of_asB {σ : St} {S H : Hp} {d : D} {k : Bool → Hp → Hp → Prop} (p : PostG c σ S H (asB d) k) : ∃ b, d = .bl b ∧ PostG c σ S H (.ok b) k := by
  cases d with
  | bl b => exact ⟨b, rfl, p⟩
  | _ => exact p.elim
theorem dt_cmp {op : CmpOp} {r2 : R2} {g : D → D → Res D} (ho : OpR X (compareOp op) r2) (hs : OpS c (mV c) r2 g) (ha : PE X a (tR c G f1)) (hb : PE X b (tR c G f2)) (hm : behindInMarks op b = false) :
    PT X (.Compare a [op] [b] pos) (tT c G (dT (dOp g f1 f2))) := pt_imp (pt_cmpR ho ha hb hm) fun σ H Q ⟨S0, H0, S, r, ok, p⟩ => by
  refine op_rd (G := G) (f1 := f1) (f2 := f2) hs σ H _ (rd_seq ok p fun d v S1 H1 w1 o1 m1 p1 => ?_)
  obtain ⟨b, rfl, p1⟩ := of_asB p1
  cases m1
  exact ⟨b, rfl, p1.go o1.ex _ rfl⟩
/-- an expression whose value is True or False, as a test -/
theorem dt_val (h : PE X e (tV c G f)) (he : ∀ whole, isTrue e X.env whole = (do let v ← whole; standAt e.pos; holding [v] (truthy v)) := by intro _; rfl) : PT X e (tT c G (dT f)) :=
  pt_imp (pt_val h he) fun σ H Q ⟨S0, H0, S, r, ok, p⟩ => rd_seq ok p fun d v S1 H1 w1 o1 m1 p1 => by
    obtain ⟨b, rfl, p1⟩ := of_asB p1
    cases m1
    exact ⟨b, rfl, p1.go o1.ex _ rfl⟩
variable {t1 t2 : Rho → Res Bool} {rest : List Expr}
def dAnd (t u : Rho → Res Bool) : Rho → Res Bool := fun r => (t r).bind fun b => if b = true then u r else .ok false
def dOr (t u : Rho → Res Bool) : Rho → Res Bool := fun r => (t r).bind fun b => if b = true then .ok true else u r
def dNot (t : Rho → Res Bool) : Rho → Res Bool := fun r => (t r).bind fun b => .ok (!b)
def dIf {α : Type} (t : Rho → Res Bool) (f g : Rho → Res α) : Rho → Res α := fun r => (t r).bind fun b => if b = true then f r else g r
theorem pw_imp {t t' : TT} (h : PW X e t) (k : ∀ σ H Q, t' σ H Q → t σ H Q) : PW X e t' := ⟨fun w pins s σ H Q I q => h.run w pins s σ H Q I (k σ H Q q)⟩
theorem dw_and1 (ha : PT X a (tT c G t1)) : PW X (.BoolOp .And [a] pos) (tT c G t1) := pw_and1 ha
theorem dw_or1 (ha : PT X a (tT c G t1)) : PW X (.BoolOp .Or [a] pos) (tT c G t1) := pw_or1 ha
theorem dw_and (ha : PT X a (tT c G t1)) (hb : PW X (.BoolOp .And (b :: rest) pos) (tT c G t2)) : PW X (.BoolOp .And (a :: b :: rest) pos) (tT c G (dAnd t1 t2)) := pw_imp (pw_and ha hb) fun σ H Q ⟨S0, H0, S, r, ok, p⟩ =>
  rd_seq ok p fun x v S1 H1 w1 o1 m1 p1 => by
    rw [show v = x from m1]
    cases x with
    | true => exact ⟨S0, H0, S1, r, o1, p1⟩
    | false => exact p1.go o1.ex _ rfl
theorem dw_or (ha : PT X a (tT c G t1)) (hb : PW X (.BoolOp .Or (b :: rest) pos) (tT c G t2)) : PW X (.BoolOp .Or (a :: b :: rest) pos) (tT c G (dOr t1 t2)) := pw_imp (pw_or ha hb) fun σ H Q ⟨S0, H0, S, r, ok, p⟩ =>
  rd_seq ok p fun x v S1 H1 w1 o1 m1 p1 => by
    rw [show v = x from m1]
    cases x with
    | true => exact p1.go o1.ex _ rfl
    | false => exact ⟨S0, H0, S1, r, o1, p1⟩
theorem dt_not (ha : PT X a (tT c G t1)) : PT X (.UnaryOp .Not a pos) (tT c G (dNot t1)) := pt_imp (pt_not ha) fun σ H Q ⟨S0, H0, S, r, ok, p⟩ =>
  rd_seq ok p fun x v S1 H1 w1 o1 m1 p1 => by
    rw [show v = x from m1]
    exact p1.go o1.ex _ rfl
/-- and, or, not as values: all True or False -/
def dAndV (f g : Rho → Res D) : Rho → Res D := fun r => (f r).bind fun x => (asB x).bind fun b => if b = true then g r else .ok (.bl false)
def dOrV (f g : Rho → Res D) : Rho → Res D := fun r => (f r).bind fun x => (asB x).bind fun b => if b = true then .ok (.bl true) else g r
def dNotV (f : Rho → Res D) : Rho → Res D := fun r => (f r).bind fun x => (asB x).bind fun b => .ok (.bl (!b))
end
end Dx
end S_DxB
section S_DxC
set_option Elab.async false
set_option linter.all false
set_option maxRecDepth 100000
set_option maxHeartbeats 2000000
namespace Dx
open PySem L2
mutual
def toPy : D → Option PyData
  | .non => some .none
  | .bl b => some (.bool b)
  | .int i => some (.int i)
  | .str s => some (.str s)
  | .lst ds => (toPyL ds).map .list
  | .fz ds => (toPyL ds).map .list
  | .tup ds => (toPyL ds).map .tuple
  | .kt ds => (toPyL ds).map .tuple
  | .dk _ _ => none
  | .dt _ _ => none
  | .dn _ _ => none
  | .obj _ _ _ => none
  | .own _ => none
  | .st _ _ => none
def toPyL : List D → Option (List PyData)
  | [] => some []
  | d :: ds => match toPy d, toPyL ds with
    | some p, some ps => some (p :: ps)
    | _, _ => none
end
section
variable {K : PySem.W.Frag} {cm : CM} {S H : Hp}
mutual
theorem Rp.dp (e : Ex S H) : ∀ {v : V} {d : D} {p : PyData}, Rp K cm S v d → toPy d = some p → Dp K H v p
  | _, .non, _, h, q => by cases h; cases q; exact .non
  | _, .bl _, _, h, q => by cases h; cases q; exact .bl _
  | _, .int _, _, h, q => by cases h; cases q; exact .int _
  | _, .str _, _, h, q => by cases h; cases q; exact .str _
  | _, .lst ds, _, h, q => by
    cases h with | lst a r =>
    rw [toPy] at q
    obtain ⟨ps, h1, rfl⟩ := Option.map_eq_some_iff.mp q
    exact .lst (.inl (.inl (e _ _ a))) (RpA.dp e r h1)
  | _, .fz ds, _, h, q => by
    cases h with | fz a r =>
    rw [toPy] at q
    obtain ⟨ps, h1, rfl⟩ := Option.map_eq_some_iff.mp q
    exact .lst (e.l a) (RpA.dp e r h1)
  | _, .tup ds, _, h, q => by
    cases h with | tup a r =>
    rw [toPy] at q
    obtain ⟨ps, h1, rfl⟩ := Option.map_eq_some_iff.mp q
    exact .tup (.inl (.inl (e _ _ a))) (RpA.dp e r h1)
  | _, .kt ds, _, h, q => by
    cases h with | kt a r =>
    rw [toPy] at q
    obtain ⟨ps, h1, rfl⟩ := Option.map_eq_some_iff.mp q
    exact .tup (e.t a) (RpA.dp e r h1)
  | _, .dk _ _, _, h, q => by cases q
  | _, .dt _ _, _, h, q => by cases q
  | _, .dn _ _, _, h, q => by cases q
  | _, .obj _ _ _, _, h, q => by cases q
theorem RpA.dp (e : Ex S H) : ∀ {vs : List V} {ds : List D} {ps : List PyData}, RpA K cm S vs ds → toPyL ds = some ps → DpAll K H vs ps
  | _, [], _, h, q => by cases h; cases q; exact .nil
  | _, d :: ds, _, h, q => by
    cases h with | cons a r =>
    rw [toPyL] at q
    cases h1 : toPy d with
    | none => rw [h1] at q; cases q
    | some p =>
      cases h2 : toPyL ds with
      | none => rw [h1, h2] at q; cases q
      | some ps =>
        rw [h1, h2] at q
        cases q
        exact .cons (Rp.dp e a h1) (RpA.dp e r h2)
end
theorem RpB.dp {v : V} {d : D} {p : PyData} (e : Ex S H) (h : RpB K cm S H v d) (q : toPy d = some p) : Dp K H v p := by
  rcases h with h | ⟨a, ho, rfl, h2, h3⟩
  · exact h.dp e q
  · cases h3 with
    | lst r =>
      rw [toPy] at q
      obtain ⟨ps, h1, rfl⟩ := Option.map_eq_some_iff.mp q
      exact .lst (.inl (.inl h2)) (r.dp e h1)
    | dk _ _ => cases q
    | dt _ _ => cases q
    | dn _ _ _ => cases q
    | obj _ _ _ => cases q
end
noncomputable def addD : D → D → Res D
  | .int i, .int j => .ok (.int (i + j))
  | .str a, .str b => guard (a.length + b.length ≤ sizeLine) (.ok (.str (a ++ b)))
  | .tup a, .tup b => guard (a.length + b.length ≤ sizeLine) (.ok (.tup (a ++ b)))
  | .lst a, .lst b => guard (a.length + b.length ≤ sizeLine) (.ok (.lst (a ++ b)))
  | _, _ => .bad
def rAddX (K : PySem.W.Frag) : R2 := fun x y H Q => (rI0 (fun i j => .int (i + j))) x y H Q ∨ (∃ i j, x = .str i ∧ y = .str j ∧ i.length + j.length ≤ sizeLine ∧ Q (.str (i ++ j)) H) ∨ rCatA K x y H Q ∨ rCat x y H Q
section
variable {X : Cx} {c : Cf}
theorem or_add : OpR X (binaryOp .Add) (rAddX X.K) := op_add.or (op_add_str.or (op_catA.or op_cat))
theorem PostG.ite {σ : St} {S H : Hp} {α : Type} {p : Prop} [Decidable p] {x : Res α} {k : α → Hp → Hp → Prop} (h : PostG c σ S H (if p then x else .bad) k) : p ∧ PostG c σ S H x k := by
  by_cases hp : p
  · rw [if_pos hp] at h; exact ⟨hp, h⟩
  · rw [if_neg hp] at h; exact h.elim
theorem os_add : OpS c (mV c) (rAddX c.K) addD := by
  intro σ S H x y d e Q ex hx hy p
  unfold addD at p
  split at p
  · cases hx.int; cases hy.int
    exact .inl ⟨_, _, rfl, rfl, p.here ex (.int _)⟩
  · cases hx.str; cases hy.str
    obtain ⟨hl, p⟩ := p.gd
    exact .inr (.inl ⟨_, _, rfl, rfl, hl, p.here ex (.str _)⟩)
  · obtain ⟨q1, xs, rfl, a1, r1, s1⟩ := hx.tup ex
    obtain ⟨q2, ys, rfl, a2, r2, s2⟩ := hy.tup ex
    obtain ⟨hl, p⟩ := p.gd
    refine .inr (.inr (.inl ⟨_, _, xs, ys, rfl, rfl, a1, a2, by rw [r1.length, r2.length]; exact hl, fun h => ?_, fun _ h => ?_, fun _ _ q hq => ?_⟩))
    · subst h; cases r1; exact p.here ex (.tup s2 r2)
    · subst h; cases r2; rw [List.append_nil] at p; exact p.here ex (.tup s1 r1)
    · exact p.laid ex hq (.tup upd_same ((r1.app r2).mono (Ex.new (ex.nn hq))))
  · obtain ⟨q1, xs, rfl, a1, r1⟩ := hx.list ex
    obtain ⟨q2, ys, rfl, a2, r2⟩ := hy.list ex
    obtain ⟨hl, p⟩ := p.gd
    refine .inr (.inr (.inr ⟨_, _, xs, ys, rfl, rfl, a1, a2, by rw [r1.length, r2.length]; exact hl, fun q hq => ?_⟩))
    exact p.laid ex hq (.lst upd_same ((r1.app r2).mono (Ex.new (ex.nn hq))))
  · exact p.elim
/-- list + list, the new list one's own -/
noncomputable def addL : D → D → Res D
  | .lst a, .lst b => guard (a.length + b.length ≤ sizeLine) (.ok (.lst (a ++ b)))
  | _, _ => .bad
theorem os_addL : OpS c (mO c) rCat addL := by
  intro σ S H x y d e Q ex hx hy p
  unfold addL at p
  split at p
  · obtain ⟨q1, xs, rfl, a1, r1⟩ := hx.list ex
    obtain ⟨q2, ys, rfl, a2, r2⟩ := hy.list ex
    obtain ⟨hl, p⟩ := p.gd
    exact ⟨_, _, xs, ys, rfl, rfl, a1, a2, by rw [r1.length, r2.length]; exact hl, fun q hq => p.kept ex hq (.lst (r1.app r2))⟩
  · exact p.elim
def subD : D → D → Res D
  | .int i, .int j => .ok (.int (i - j))
  | _, _ => .bad
theorem os_sub : OpS c (mV c) (rI0 fun i j => .int (i - j)) subD := by
  intro σ S H x y d e Q ex hx hy p
  unfold subD at p
  split at p
  · cases hx.int; cases hy.int
    exact ⟨_, _, rfl, rfl, p.here ex (.int _)⟩
  · exact p.elim
def smallI (i : Int) : Prop := -(2 ^ 64) < i ∧ i < 2 ^ 64
theorem RpA.rep {K : PySem.W.Frag} {cm : CM} {S : Hp} {vs : List V} {ds : List D} (h : RpA K cm S vs ds) : ∀ n : Nat, RpA K cm S (List.replicate n vs).flatten (List.replicate n ds).flatten
  | 0 => .nil
  | n + 1 => by rw [List.replicate_succ, List.replicate_succ, List.flatten_cons, List.flatten_cons]; exact h.app (RpA.rep h n)
noncomputable def mulD : D → D → Res D
  | .int i, .int j => guard (smallI i ∨ smallI j) (.ok (.int (i * j)))
  | .lst a, .int k => guard (0 ≤ k ∧ k < 2 ^ 60 ∧ a.length * k.toNat ≤ sizeLine) (.ok (.lst (List.replicate k.toNat a).flatten))
  | _, _ => .bad
def rMulX : R2 := fun x y H Q => (rI CMul (fun i j => .int (i * j))) x y H Q ∨ rRep x y H Q
theorem or_mul : OpR X (binaryOp .Mult) rMulX := op_mul.or op_rep
theorem os_mul : OpS c (mV c) rMulX mulD := by
  intro σ S H x y d e Q ex hx hy p
  unfold mulD at p
  split at p
  · cases hx.int; cases hy.int
    obtain ⟨hl, p⟩ := p.gd
    exact .inl ⟨_, _, rfl, rfl, hl, p.here ex (.int _)⟩
  · obtain ⟨q1, xs, rfl, a1, r1⟩ := hx.list ex
    cases hy.int
    obtain ⟨⟨h0, h1, h2⟩, p⟩ := p.gd
    refine .inr ⟨_, _, xs, rfl, rfl, a1, by omega, by omega, by rw [r1.length]; exact h2, fun q hq => ?_⟩
    exact p.laid ex hq (.lst upd_same ((r1.rep _).mono (Ex.new (ex.nn hq))))
  · exact p.elim
noncomputable def fdivD : D → D → Res D
  | .int i, .int j => if 0 < j then guard (j < 4611686018427387904) (.ok (.int (i / j))) else guard (j ≠ 0 ∧ j.natAbs < 1073741824) (.ok (.int (i.fdiv j)))
  | _, _ => .bad
def rFdivX : R2 := fun x y H Q => (rI CDivW (fun i j => .int (i / j))) x y H Q ∨ (rI CDivN (fun i j => .int (i.fdiv j))) x y H Q
theorem or_fdiv : OpR X (binaryOp .FloorDiv) rFdivX := op_fdivW.or op_fdivN
theorem os_fdiv : OpS c (mV c) rFdivX fdivD := by
  intro σ S H x y d e Q ex hx hy p
  unfold fdivD at p
  split at p
  · cases hx.int; cases hy.int
    split at p
    · rename_i h
      obtain ⟨h2, p⟩ := p.gd
      exact .inl ⟨_, _, rfl, rfl, wide_div (b := 62) h (by omega) (by decide) (by decide), p.here ex (.int _)⟩
    · obtain ⟨h, p⟩ := p.gd
      exact .inr ⟨_, _, rfl, rfl, h, p.here ex (.int _)⟩
  · exact p.elim
noncomputable def modD : D → D → Res D
  | .int i, .int j => guard (0 < j) (.ok (.int (i % j)))
  | _, _ => .bad
theorem os_mod : OpS c (mV c) (rI (fun _ j => 0 < j) fun i j => .int (i % j)) modD := by
  intro σ S H x y d e Q ex hx hy p
  unfold modD at p
  split at p
  · cases hx.int; cases hy.int
    obtain ⟨h, p⟩ := p.gd
    exact ⟨_, _, rfl, rfl, h, p.here ex (.int _)⟩
  · exact p.elim
def intsD (g : Int → Int → Int) : D → D → Res D
  | .int i, .int j => .ok (.int (g i j))
  | _, _ => .bad
def eqFlat : D → D → Option Bool
  | .int i, .int j => some (decide (i = j))
  | .str a, .str b => some (decide (a = b))
  | .bl a, .bl b => some (decide (a = b))
  | .non, .non => some true
  | .non, .int _ => some false
  | .non, .bl _ => some false
  | .non, .str _ => some false
  | .int _, .non => some false
  | .bl _, .non => some false
  | .str _, .non => some false
  | .int _, .str _ => some false
  | .str _, .int _ => some false
  | .bl _, .str _ => some false
  | .str _, .bl _ => some false
  | _, _ => none
def eqDeep (d e : D) : Res Bool := match toPy d, toPy e with
  | some p, some q => if SeqAt.shaped p = true ∧ SeqAt.shaped q = true then .ok (PyData.eqv p q) else .bad
  | _, _ => .bad
def eqB (d e : D) : Res Bool := match eqFlat d e with
  | some b => .ok b
  | none => eqDeep d e
def eqD (d e : D) : Res D := (eqB d e).bind fun b => .ok (.bl b)
def neD (d e : D) : Res D := (eqB d e).bind fun b => .ok (.bl (!b))
theorem of_eqDeep {σ : St} {S H : Hp} {x y : V} {d e : D} {g : Bool → Res D} {k : D → Hp → Hp → Prop} (ex : Ex S H) (hx : RpB c.K c.cm S H x d) (hy : RpB c.K c.cm S H y e) (p : PostG c σ S H ((eqDeep d e).bind g) k) :
    ∃ u v, Dp c.K H x u ∧ Dp c.K H y v ∧ SeqAt.shaped u = true ∧ SeqAt.shaped v = true ∧ PostG c σ S H (g (PyData.eqv u v)) k := by
  unfold eqDeep at p
  split at p
  · rename_i u v h1 h2
    by_cases hs : SeqAt.shaped u = true ∧ SeqAt.shaped v = true
    · rw [if_pos hs] at p
      exact ⟨u, v, hx.dp ex h1, hy.dp ex h2, hs.1, hs.2, p⟩
    · rw [if_neg hs] at p
      exact p.elim
  · exact p.elim
theorem of_eqFlat {S H : Hp} {x y : V} {d e : D} {b : Bool} (hx : RpB c.K c.cm S H x d) (hy : RpB c.K c.cm S H y e) (h : eqFlat d e = some b) : scal x y = true ∧ decide (x = y) = b := by
  unfold eqFlat at h
  split at h
  · cases hx.int; cases hy.int; cases h; exact ⟨rfl, by simp⟩
  · cases hx.str; cases hy.str; cases h; exact ⟨rfl, by simp⟩
  · cases hx.bl; cases hy.bl; cases h; exact ⟨rfl, by simp⟩
  · cases hx.non; cases hy.non; cases h; exact ⟨rfl, rfl⟩
  · cases hx.non; cases hy.int; cases h; exact ⟨rfl, rfl⟩
  · cases hx.non; cases hy.bl; cases h; exact ⟨rfl, rfl⟩
  · cases hx.non; cases hy.str; cases h; exact ⟨rfl, rfl⟩
  · cases hx.int; cases hy.non; cases h; exact ⟨rfl, rfl⟩
  · cases hx.bl; cases hy.non; cases h; exact ⟨rfl, rfl⟩
  · cases hx.str; cases hy.non; cases h; exact ⟨rfl, rfl⟩
  · cases hx.int; cases hy.str; cases h; exact ⟨rfl, rfl⟩
  · cases hx.str; cases hy.int; cases h; exact ⟨rfl, rfl⟩
  · cases hx.bl; cases hy.str; cases h; exact ⟨rfl, rfl⟩
  · cases hx.str; cases hy.bl; cases h; exact ⟨rfl, rfl⟩
  · cases h
def rEqX (K : PySem.W.Frag) : R2 := fun x y H Q => rEq x y H Q ∨ rEqD K x y H Q
def rNeX (K : PySem.W.Frag) : R2 := fun x y H Q => rNe x y H Q ∨ rNeD K x y H Q
theorem or_eq (hu : X.A.units + 64 < cLine) : OpR X (compareOp .Eq) (rEqX X.K) := op_eq.or (op_eqD hu)
theorem or_ne (hu : X.A.units + 64 < cLine) : OpR X (compareOp .NotEq) (rNeX X.K) := op_ne.or (op_neD hu)
theorem os_eq : OpS c (mV c) (rEqX c.K) eqD := by
  intro σ S H x y d e Q ex hx hy p
  unfold eqD eqB at p
  split at p
  · rename_i b hb
    obtain ⟨h1, h2⟩ := of_eqFlat hx hy hb
    refine .inl ⟨h1, ?_⟩
    rw [h2]; exact p.here ex (.bl _)
  · obtain ⟨u, v, h1, h2, h3, h4, p⟩ := of_eqDeep ex hx hy p
    exact .inr ⟨u, v, h1, h2, h3, h4, p.here ex (.bl _)⟩
theorem os_ne : OpS c (mV c) (rNeX c.K) neD := by
  intro σ S H x y d e Q ex hx hy p
  unfold neD eqB at p
  split at p
  · rename_i b hb
    obtain ⟨h1, h2⟩ := of_eqFlat hx hy hb
    refine .inl ⟨h1, ?_⟩
    rw [h2]; exact p.here ex (.bl _)
  · obtain ⟨u, v, h1, h2, h3, h4, p⟩ := of_eqDeep ex hx hy p
    exact .inr ⟨u, v, h1, h2, h3, h4, p.here ex (.bl _)⟩
/-- by ints, by texts -/
def ordD (g : Int → Int → Bool) (h : Str → Str → Bool) : D → D → Res D
  | .int i, .int j => .ok (.bl (g i j))
  | .str a, .str b => .ok (.bl (h a b))
  | _, _ => .bad
def rOrd (g : Int → Int → Bool) (h : Str → Str → Bool) : R2 := fun x y H Q => (rI0 fun i j => .bl (g i j)) x y H Q ∨ ∃ i j, x = .str i ∧ y = .str j ∧ Q (.bl (h i j)) H
theorem os_ord {g : Int → Int → Bool} {h : Str → Str → Bool} : OpS c (mV c) (rOrd g h) (ordD g h) := by
  intro σ S H x y d e Q ex hx hy p
  unfold ordD at p
  split at p
  · cases hx.int; cases hy.int
    exact .inl ⟨_, _, rfl, rfl, p.here ex (.bl _)⟩
  · cases hx.str; cases hy.str
    exact .inr ⟨_, _, rfl, rfl, p.here ex (.bl _)⟩
  · exact p.elim
abbrev ltD : D → D → Res D := ordD (fun i j => decide (i < j)) fun i j => decide (i.cps.toList < j.cps.toList)
abbrev leD : D → D → Res D := ordD (fun i j => decide (i ≤ j)) fun i j => !decide (j.cps.toList < i.cps.toList)
abbrev gtD : D → D → Res D := ordD (fun i j => decide (j < i)) fun i j => decide (j.cps.toList < i.cps.toList)
abbrev geD : D → D → Res D := ordD (fun i j => decide (j ≤ i)) fun i j => !decide (i.cps.toList < j.cps.toList)
theorem or_lt : OpR X (compareOp .Lt) (rOrd (fun i j => decide (i < j)) fun i j => decide (i.cps.toList < j.cps.toList)) := op_lt.or op_lt_str
theorem or_le : OpR X (compareOp .LtE) (rOrd (fun i j => decide (i ≤ j)) fun i j => !decide (j.cps.toList < i.cps.toList)) := op_le.or op_le_str
theorem or_gt : OpR X (compareOp .Gt) (rOrd (fun i j => decide (j < i)) fun i j => decide (j.cps.toList < i.cps.toList)) := op_gt.or op_gt_str
theorem or_ge : OpR X (compareOp .GtE) (rOrd (fun i j => decide (j ≤ i)) fun i j => !decide (i.cps.toList < j.cps.toList)) := op_ge.or op_ge_str
/-- is None, is not None -/
def isN : D → Bool
  | .non => true
  | _ => false
def isD (neg : Bool) (d e : D) : Res D := if isN e = true then .ok (.bl (if neg then !isN d else isN d)) else .bad
theorem RpB.isN {K : PySem.W.Frag} {cm : CM} {S H : Hp} {v : V} {d : D} (h : RpB K cm S H v d) : decide (v = .non) = isN d := by
  rcases h with h | ⟨p, ho, rfl, h2, h3⟩
  · cases h <;> rfl
  · cases h3 <;> rfl
theorem os_is : OpS c (mV c) (fun x y H Q => y = .non ∧ Q (.bl (decide (x = .non))) H) (isD false) := by
  intro σ S H x y d e Q ex hx hy p
  obtain ⟨h, p⟩ := p.ite
  rw [hx.isN]
  refine ⟨of_decide_eq_true (hy.isN.trans h), p.here ex (.bl _)⟩
/-- x in: a list of data, a text in a text, a flat thing in a tuple of flat things -/
def flatD : D → Option V
  | .non => some .non
  | .bl b => some (.bl b)
  | .int i => some (.int i)
  | .str s => some (.str s)
  | _ => none
def flatDs : List D → Option (List V)
  | [] => some []
  | d :: ds => match flatD d, flatDs ds with
    | some v, some vs => some (v :: vs)
    | _, _ => none
def inDeep (d : D) (ds : List D) : Res Bool := match toPy d, toPyL ds with
  | some p, some ps => if SeqAt.shaped p = true ∧ SeqAt.shaped (.list ps) = true then .ok (ps.any fun z => PyData.eqv z p) else .bad
  | _, _ => .bad
def inFlat (d : D) (ds : List D) : Option Bool := match flatD d, flatDs ds with
  | some v, some vs => some (inV v vs)
  | _, _ => none
def inLst (d : D) (ds : List D) : Res Bool := match inFlat d ds with
  | some b => .ok b
  | none => inDeep d ds
def inTup (d : D) (ds : List D) : Res Bool := match inFlat d ds with
  | some b => .ok b
  | none => .bad
def inStr (a b : Str) : Bool := match a.cps.toList with
  | [n] => decide (n ∈ b.cps.toList)
  | _ => !(Builtin.Str.occurrences b a 0 b.length 1).isEmpty
def inB : D → D → Res Bool
  | d, .lst ds => inLst d ds
  | d, .fz ds => inLst d ds
  | d, .tup ds => inTup d ds
  | .str a, .str b => .ok (inStr a b)
  | _, _ => .bad
def inD (d e : D) : Res D := (inB d e).bind fun b => .ok (.bl b)
def ninD (d e : D) : Res D := (inB d e).bind fun b => .ok (.bl (!b))
end
end Dx
end S_DxC
section S_DxD
set_option Elab.async false
set_option linter.all false
set_option maxRecDepth 100000
set_option maxHeartbeats 2000000
namespace Dx
open PySem L2
section
variable {X : Cx} {c : Cf} {G : List Ow} {f f1 f2 f3 : Rho → Res D} {a b e : Expr} {es : List Expr} {pos p : Pos} {fs : Rho → Res (List D)}
def dChain (g g' : D → D → Res D) (f1 f2 f3 : Rho → Res D) : Rho → Res D := fun r => (f1 r).bind fun x => (f2 r).bind fun y => (g x y).bind fun z => (asB z).bind fun k => if k = true then (f3 r).bind fun w => g' y w else .ok (.bl false)
theorem chain_rd {r2 r2' : R2} {g g' : D → D → Res D} (hs : OpS c (mV c) r2 g) (hs' : OpS c (mV c) r2' g') : ∀ σ H Q, tV c G (dChain g g' f1 f2 f3) σ H Q → tChain r2 r2' (tR c G f1) (tR c G f2) (tR c G f3) σ H Q := fun σ H Q ⟨S0, H0, S, r, ok, p⟩ =>
  rd_seq ok p fun x v S1 H1 w1 o1 m1 p1 => rd_seq o1 p1 fun y u S2 H2 w2 o2 m2 p2 => hs σ S2 H2 v u x y _ o2.ex (RpB.mono m1 w2.s w2.h) m2 (p2.unbind.imp fun z S3 H3 w3 p3 bz hz => by
    obtain ⟨k, rfl, q3⟩ := of_asB (PostG.imp p3.unbind fun _ _ _ _ h => h)
    cases hz
    refine ⟨k, rfl, ?_⟩
    have o3 := o2.go w3
    have p4 := q3.go o3.ex
    cases k with
    | true => exact rd_seq o3 p4 fun w u' S4 H4 w4 o4 m4 p5 => hs' σ S4 H4 u u' y w Q o4.ex (RpB.mono m2 (w3.s.trans w4.s) (w3.h.trans w4.h)) m4 p5
    | false => exact p4.go o3.ex _ (.bl _))
theorem dt_chain {op op' : CmpOp} {r2 r2' : R2} {g g' : D → D → Res D} {e3 : Expr} (ho : OpR X (compareOp op) r2) (hs : OpS c (mV c) r2 g) (ho' : OpR X (compareOp op') r2') (hs' : OpS c (mV c) r2' g') (ha : PE X a (tR c G f1)) (hb : PE X b (tR c G f2)) (hc : PE X e3 (tR c G f3))
    (hm : lastMarks [op, op'] [b, e3] = false := by with_unfolding_all rfl) : PT X (.Compare a [op, op'] [b, e3] pos) (tT c G (dT (dChain g g' f1 f2 f3))) := pt_imp (pt_chain ho ho' ha hb hc hm) fun σ H Q ⟨S0, H0, S, r, ok, p⟩ => by
  refine chain_rd (G := G) hs hs' σ H _ (rd_seq ok p fun d v S1 H1 w1 o1 m1 p1 => ?_)
  obtain ⟨b, rfl, p1⟩ := of_asB p1
  cases m1
  exact ⟨b, rfl, p1.go o1.ex _ rfl⟩
def negD : D → Res D
  | .int i => .ok (.int (-i))
  | _ => .bad
def dUn (g : D → Res D) (f : Rho → Res D) : Rho → Res D := fun r => (f r).bind g
theorem de_neg (ha : PE X a (tV c G f)) : PE X (.UnaryOp .USub a pos) (tV c G (dUn negD f)) := pe_imp (pe_un un_neg ha) fun σ H Q ⟨S0, H0, S, r, ok, p⟩ => rd_seq ok p fun d v S1 H1 w1 o1 m1 p1 => by
  cases d with
  | int i => cases m1; exact ⟨i, rfl, p1.go o1.ex _ (.int _)⟩
  | _ => exact p1.elim
theorem de_one {op : BoolOp} (h : PE X a (tV c G f)) : PE X (.BoolOp op [a] pos) (tV c G f) := pe_one h
theorem de_and {rest : List Expr} (ha : PE X a (tV c G f1)) (hb : PE X (.BoolOp .And (b :: rest) pos) (tV c G f2)) : PE X (.BoolOp .And (a :: b :: rest) pos) (tV c G (dAndV f1 f2)) := pe_imp (pe_and ha hb) fun σ H Q ⟨S0, H0, S, r, ok, p⟩ =>
  rd_seq ok p fun d v S1 H1 w1 o1 m1 p1 => by
    obtain ⟨k, rfl, q1⟩ := of_asB (p1.unbind)
    cases m1
    refine ⟨k, rfl, ?_⟩
    have p2 := q1.go o1.ex
    cases k with
    | true => exact ⟨S0, H0, S1, r, o1, p2⟩
    | false => exact p2.go o1.ex _ (.bl _)
theorem de_not (ha : PE X a (tV c G f)) : PE X (.UnaryOp .Not a pos) (tV c G (dNotV f)) := pe_imp (pe_not ha) fun σ H Q ⟨S0, H0, S, r, ok, p⟩ =>
  rd_seq ok p fun d v S1 H1 w1 o1 m1 p1 => by
    obtain ⟨k, rfl, q1⟩ := of_asB (p1.unbind)
    cases m1
    exact ⟨k, rfl, (q1.go o1.ex).go o1.ex _ (.bl _)⟩
def dNil : Rho → Res (List D) := fun _ => .ok []
def dCons (f : Rho → Res D) (g : Rho → Res (List D)) : Rho → Res (List D) := fun r => (f r).bind fun x => (g r).bind fun xs => .ok (x :: xs)
/-- with a mode for each: true, a thing that is only read -/
def RpM (c : Cf) (S H : Hp) : List Bool → List V → List D → Prop
  | [], [], [] => True
  | true :: ms, v :: vs, d :: ds => RpB c.K c.cm S H v d ∧ RpM c S H ms vs ds
  | false :: ms, v :: vs, d :: ds => Rp c.K c.cm S v d ∧ RpM c S H ms vs ds
  | _, _, _ => False
theorem RpM.mono {S H S' H' : Hp} (e : Ex S S') (e' : Ex H H') : ∀ {ms : List Bool} {vs : List V} {ds : List D}, RpM c S H ms vs ds → RpM c S' H' ms vs ds
  | [], [], [], _ => trivial
  | true :: ms, v :: vs, d :: ds, h => ⟨h.1.mono e e', RpM.mono e e' h.2⟩
  | false :: ms, v :: vs, d :: ds, h => ⟨h.1.mono e, RpM.mono e e' h.2⟩
  | [], _ :: _, _, h => h.elim
  | [], [], _ :: _, h => h.elim
  | true :: _, [], _, h => h.elim
  | true :: _, _ :: _, [], h => h.elim
  | false :: _, [], _, h => h.elim
  | false :: _, _ :: _, [], h => h.elim
def mM (c : Cf) (ms : List Bool) : Md (List V) (List D) := fun _ S' H' vs ds => RpM c S' H' ms vs ds
instance {ms : List Bool} : Anti (mM c ms) := ⟨fun _ h => h⟩
abbrev tM (c : Cf) (G : List Ow) (ms : List Bool) (f : Rho → Res (List D)) : TA := rd c G f (mM c ms)
theorem dm_nil : PA X [] (tM c G [] dNil) := pa_imp pa_nil fun σ H Q ⟨S0, H0, S, r, ok, p⟩ => p.go ok.ex _ trivial
theorem dm_bor {ms : List Bool} (ha : PE X e (tR c G f)) (hr : PA X es (tM c G ms fs)) (hs : starEach (e :: es) X.env = (false, eval e X.env) :: starEach es X.env := by rfl) : PA X (e :: es) (tM c G (true :: ms) (dCons f fs)) :=
  pa_imp (pa_cons ha hr hs) fun σ H Q ⟨S0, H0, S, r, ok, p⟩ => rd_seq ok p fun x v S1 H1 w1 o1 m1 p1 => rd_seq o1 p1 fun xs vs S2 H2 w2 o2 m2 p2 => p2.go o2.ex _ ⟨RpB.mono m1 w2.s w2.h, m2⟩
theorem dm_val {ms : List Bool} (ha : PE X e (tV c G f)) (hr : PA X es (tM c G ms fs)) (hs : starEach (e :: es) X.env = (false, eval e X.env) :: starEach es X.env := by rfl) : PA X (e :: es) (tM c G (false :: ms) (dCons f fs)) :=
  pa_imp (pa_cons ha hr hs) fun σ H Q ⟨S0, H0, S, r, ok, p⟩ => rd_seq ok p fun x v S1 H1 w1 o1 m1 p1 => rd_seq o1 p1 fun xs vs S2 H2 w2 o2 m2 p2 => p2.go o2.ex _ ⟨Rp.mono w2.s m1, m2⟩
theorem da_nil : PA X [] (tAs c G dNil) := pa_imp pa_nil fun σ H Q ⟨S0, H0, S, r, ok, p⟩ => p.go ok.ex _ .nil
theorem da_cons (ha : PE X e (tV c G f)) (hr : PA X es (tAs c G fs)) (hs : starEach (e :: es) X.env = (false, eval e X.env) :: starEach es X.env := by rfl) : PA X (e :: es) (tAs c G (dCons f fs)) :=
  pa_imp (pa_cons ha hr hs) fun σ H Q ⟨S0, H0, S, r, ok, p⟩ => rd_seq ok p fun x v S1 H1 w1 o1 m1 p1 => rd_seq o1 p1 fun xs vs S2 H2 w2 o2 m2 p2 => p2.go o2.ex _ (.cons (Rp.mono w2.s m1) m2)
noncomputable def mkTup (ds : List D) : Res D := guard (ds.length ≤ sizeLine) (.ok (.tup ds))
noncomputable def mkLst (ds : List D) : Res D := guard (ds.length ≤ sizeLine) (.ok (.lst ds))
noncomputable def dTup (g : Rho → Res (List D)) : Rho → Res D := fun r => (g r).bind mkTup
noncomputable def dLst (g : Rho → Res (List D)) : Rho → Res D := fun r => (g r).bind mkLst
theorem de_tup {k : Nat} (h : PA X es (tAs c G fs)) : PE X (.Tuple es k pos) (tV c G (dTup fs)) := pe_imp (pe_tup h) fun σ H Q ⟨S0, H0, S, r, ok, p⟩ => rd_seq ok p fun ds vs S1 H1 w1 o1 m1 p1 => by
  obtain ⟨hl, p1⟩ := p1.gd
  exact ⟨by rw [RpA.length m1]; exact hl, fun q hq => p1.laid o1.ex hq (.tup upd_same (RpA.mono (Ex.new (o1.ex.nn hq)) m1))⟩
theorem de_lst (h : PA X es (tAs c G fs)) : PE X (.List es pos) (tO c G (dLst fs)) := pe_imp (pe_lst h) fun σ H Q ⟨S0, H0, S, r, ok, p⟩ => rd_seq ok p fun ds vs S1 H1 w1 o1 m1 p1 => by
  obtain ⟨hl, p1⟩ := p1.gd
  exact ⟨by rw [RpA.length m1]; exact hl, fun q hq => (p1.anti w1.h).kept o1.ex hq (.lst m1)⟩
def CallS (c : Cf) (R : Md V D) (r : List V → Hp → VK → Prop) (ms : List Bool) (g : List D → Res D) : Prop := ∀ (σ : St) (S H : Hp) (vs : List V) (ds : List D) (Q : VK), Ex S H → RpM c S H ms vs ds →
  PostG c σ S H (g ds) (fun a S' H' => ∀ b, R H S' H' b a → Q b H') → r vs H Q
def dCall (g : List D → Res D) (fs : Rho → Res (List D)) : Rho → Res D := fun r => (fs r).bind g
theorem de_bltn {R : Md V D} [Anti R] {x : Str} {id : String} {ms : List Bool} {r : List V → Hp → VK → Prop} {g : List D → Res D} (hc : CallR X (.builtin id) r) (hs : CallS c R r ms g) (hg : Gl X x) (hm : X.mg x = none) (hv : bootBuiltins x = some (.builtin id)) (ha : PA X (e :: es) (tM c G ms fs))
    (hn : x ≠ "__name__" := by decide) (hdb : (x == ("__debug__" : Str)) = false := by decide) (he : starEach (e :: es) X.env = (false, eval e X.env) :: starEach es X.env := by rfl) (hpl : (backTo pos (starEach es X.env)).any (·.1) = false := by rfl) :
    PE X (.Call (.Name x p) (e :: es) [] pos) (rd c G (dCall g fs) R) := pe_imp (pe_callB hc hg hm hv ha hn hdb he hpl) fun σ H Q ⟨S0, H0, S, r, ok, p⟩ => rd_seq ok p fun ds vs S1 H1 w1 o1 m1 p1 => hs σ S1 H1 vs ds Q o1.ex m1 (p1.anti w1.h)
theorem de_type {R : Md V D} [Anti R] {x : Str} {T : String} {ms : List Bool} {r : List V → Hp → VK → Prop} {g : List D → Res D} (hc : CallR X (.type T) r) (hs : CallS c R r ms g) (hg : Gl X x) (hm : X.mg x = none) (hv : bootBuiltins x = some (.type T)) (ha : PA X (e :: es) (tM c G ms fs))
    (hn : x ≠ "__name__" := by decide) (hdb : (x == ("__debug__" : Str)) = false := by decide) (he : starEach (e :: es) X.env = (false, eval e X.env) :: starEach es X.env := by rfl) (hpl : (backTo pos (starEach es X.env)).any (·.1) = false := by rfl) :
    PE X (.Call (.Name x p) (e :: es) [] pos) (rd c G (dCall g fs) R) := pe_imp (pe_callTy hc hg hm hv ha hn hdb he hpl) fun σ H Q ⟨S0, H0, S, r, ok, p⟩ => rd_seq ok p fun ds vs S1 H1 w1 o1 m1 p1 => hs σ S1 H1 vs ds Q o1.ex m1 (p1.anti w1.h)
theorem RpM.one {S H : Hp} {vs : List V} {ds : List D} (h : RpM c S H [true] vs ds) : ∃ v d, vs = [v] ∧ ds = [d] ∧ RpB c.K c.cm S H v d := by
  match vs, ds, h with
  | [v], [d], h => exact ⟨v, d, rfl, rfl, h.1⟩
  | _ :: _ :: _, [_], h => exact h.2.elim
  | [_], _ :: _ :: _, h => exact h.2.elim
  | _ :: _ :: _, _ :: _ :: _, h => exact h.2.elim
  | [], _, h => exact h.elim
  | _ :: _, [], h => exact h.elim
theorem RpM.two {S H : Hp} {vs : List V} {ds : List D} (h : RpM c S H [true, true] vs ds) : ∃ v w d e, vs = [v, w] ∧ ds = [d, e] ∧ RpB c.K c.cm S H v d ∧ RpB c.K c.cm S H w e := by
  match vs, ds, h with
  | v :: vs, d :: ds, h =>
    obtain ⟨w, e, rfl, rfl, h2⟩ := RpM.one h.2
    exact ⟨v, w, d, e, rfl, rfl, h.1, h2⟩
  | [], _, h => exact h.elim
  | _ :: _, [], h => exact h.elim
/-- len -/
noncomputable def lenD : D → Res D
  | .str z => guard (z.length ≤ sizeLine) (.ok (.int z.length))
  | .lst ds => .ok (.int ds.length)
  | .fz ds => .ok (.int ds.length)
  | .tup ds => .ok (.int ds.length)
  | .kt ds => .ok (.int ds.length)
  | _ => .bad
def g1 (g : D → Res D) : List D → Res D
  | [d] => g d
  | _ => .bad
def g2 (g : D → D → Res D) : List D → Res D
  | [d, e] => g d e
  | _ => .bad
theorem cs_len : CallS c (mV c) (fun xs H Q => ∃ x n, xs = [x] ∧ LenV c.K x H n ∧ Q (.int n) H) [true] (g1 lenD) := by
  intro σ S H vs ds Q ex m p
  obtain ⟨v, d, rfl, rfl, h⟩ := m.one
  cases d with
  | str z =>
    obtain ⟨hl, p⟩ := p.gd
    cases h.str
    exact ⟨_, _, rfl, ⟨hl, rfl⟩, p.here ex (.int _)⟩
  | lst ds =>
    obtain ⟨q, xs, rfl, a1, r1⟩ := h.list ex
    exact ⟨_, _, rfl, .inl ⟨xs, .inl (.inl a1), r1.length.symm⟩, p.here ex (.int _)⟩
  | fz ds =>
    obtain ⟨q, xs, rfl, a1, r1⟩ := h.fz ex
    exact ⟨_, _, rfl, .inl ⟨xs, a1, r1.length.symm⟩, p.here ex (.int _)⟩
  | tup ds =>
    obtain ⟨q, xs, rfl, a1, r1, s1⟩ := h.tup ex
    exact ⟨_, _, rfl, .inr ⟨xs, a1, r1.length.symm⟩, p.here ex (.int _)⟩
  | kt ds =>
    obtain ⟨q, xs, rfl, a1, r1, s1⟩ := h.kt ex
    exact ⟨_, _, rfl, .inr ⟨xs, a1, r1.length.symm⟩, p.here ex (.int _)⟩
  | _ => exact p.elim
/-- int(..) -/
noncomputable def intD : D → Res D
  | .int i => .ok (.int i)
  | .bl k => .ok (.int (if k then 1 else 0))
  | .str a => match PySem.intText? a with
    | some n => guard (a.length ≤ 640) (.ok (.int n))
    | none => .bad
  | _ => .bad
def rIntX : List V → Hp → VK → Prop := fun xs H Q => ((∃ i, xs = [.int i] ∧ Q (.int i) H) ∨ ∃ k, xs = [.bl k] ∧ Q (.int (if k then 1 else 0)) H) ∨ ∃ a n, xs = [.str a] ∧ PySem.intText? a = some n ∧ a.length ≤ 640 ∧ Q (.int n) H
theorem cr_int : CallR X (.type "int") rIntX := call_int1.or call_int_str
theorem cs_int : CallS c (mV c) rIntX [true] (g1 intD) := by
  intro σ S H vs ds Q ex m p
  obtain ⟨v, d, rfl, rfl, h⟩ := m.one
  cases d with
  | int i => cases h.int; exact .inl (.inl ⟨_, rfl, p.here ex (.int _)⟩)
  | bl k => cases h.bl; exact .inl (.inr ⟨_, rfl, p.here ex (.int _)⟩)
  | str a =>
    cases h.str
    unfold g1 intD at p
    dsimp only at p
    split at p
    · rename_i n hn
      obtain ⟨hl, p⟩ := p.gd
      exact .inr ⟨_, n, rfl, hn, hl, p.here ex (.int _)⟩
    · exact p.elim
  | _ => exact p.elim
def absD : D → Res D
  | .int i => .ok (.int (if i < 0 then -i else i))
  | _ => .bad
theorem cs_ints2 {g : Int → Int → Int} : CallS c (mV c) (fun xs H Q => ∃ i j, xs = [.int i, .int j] ∧ Q (.int (g i j)) H) [true, true] (g2 (intsD g)) := by
  intro σ S H vs ds Q ex m p
  obtain ⟨v, w, d, e, rfl, rfl, h, h'⟩ := m.two
  unfold g2 intsD at p
  dsimp only at p
  split at p
  · cases h.int; cases h'.int; exact ⟨_, _, rfl, p.here ex (.int _)⟩
  · exact p.elim
abbrev max2 (i j : Int) : Int := if j > i then j else i
abbrev min2 (i j : Int) : Int := if j < i then j else i
/-- list(..), tuple(..) -/
def itemsL : D → Res (List D)
  | .lst ds => .ok ds
  | .fz ds => .ok ds
  | _ => .bad
def itemsT : D → Res (List D)
  | .tup ds => .ok ds
  | _ => .bad
def items : D → Res (List D)
  | .lst ds => .ok ds
  | .fz ds => .ok ds
  | .tup ds => .ok ds
  | _ => .bad
def listD (d : D) : Res D := match d with
  | .kt ds => .ok (.lst ds)
  | d => (items d).bind fun ds => .ok (.lst ds)
theorem cs_list : CallS c (mO c) (fun xs H Q => ∃ p ys, xs = [.ref p] ∧ (SqL c.K H p ys ∨ SqT c.K H p ys) ∧ ∀ l, H l = none → Q (.ref l) (upd H l (.lst ys))) [true] (g1 listD) := by
  intro σ S H vs ds Q ex m p
  obtain ⟨v, d, rfl, rfl, h⟩ := m.one
  cases d with
  | lst ds =>
    obtain ⟨q, xs, rfl, a1, r1⟩ := h.list ex
    exact ⟨q, xs, rfl, .inl (.inl (.inl a1)), fun l hl => p.kept ex hl (.lst r1)⟩
  | fz ds =>
    obtain ⟨q, xs, rfl, a1, r1⟩ := h.fz ex
    exact ⟨q, xs, rfl, .inl a1, fun l hl => p.kept ex hl (.lst r1)⟩
  | tup ds =>
    obtain ⟨q, xs, rfl, a1, r1, s1⟩ := h.tup ex
    exact ⟨q, xs, rfl, .inr a1, fun l hl => p.kept ex hl (.lst r1)⟩
  | kt ds =>
    obtain ⟨q, xs, rfl, a1, r1, s1⟩ := h.kt ex
    exact ⟨q, xs, rfl, .inr a1, fun l hl => p.kept ex hl (.lst r1)⟩
  | _ => exact p.elim
def tupleD (d : D) : Res D := (items d).bind fun ds => .ok (.tup ds)
theorem cs_tuple : CallS c (mV c) (fun xs H Q => ∃ p ys, xs = [.ref p] ∧ ((SqL c.K H p ys ∧ ∀ l, H l = none → Q (.ref l) (upd H l (.tup ys))) ∨ (SqT c.K H p ys ∧ Q (.ref p) H))) [true] (g1 tupleD) := by
  intro σ S H vs ds Q ex m p
  obtain ⟨v, d, rfl, rfl, h⟩ := m.one
  cases d with
  | lst ds =>
    obtain ⟨q, xs, rfl, a1, r1⟩ := h.list ex
    exact ⟨q, xs, rfl, .inl ⟨.inl (.inl a1), fun l hl => p.laid ex hl (.tup upd_same (r1.mono (Ex.new (ex.nn hl))))⟩⟩
  | fz ds =>
    obtain ⟨q, xs, rfl, a1, r1⟩ := h.fz ex
    exact ⟨q, xs, rfl, .inl ⟨a1, fun l hl => p.laid ex hl (.tup upd_same (r1.mono (Ex.new (ex.nn hl))))⟩⟩
  | tup ds =>
    obtain ⟨q, xs, rfl, a1, r1, s1⟩ := h.tup ex
    exact ⟨q, xs, rfl, .inr ⟨a1, p.here ex (.tup s1 r1)⟩⟩
  | _ => exact p.elim
/-- str(n), str(text) is not here: see part T -/
noncomputable def strD : D → Res D
  | .int i => guard (i.natAbs.log2 < 1920) (.ok (.str (toString i)))
  | _ => .bad
def tyN : D → Option String
  | .non => some "NoneType"
  | .bl _ => some "bool"
  | .int _ => some "int"
  | .str _ => some "str"
  | .lst _ => some "list"
  | .fz _ => some "list"
  | .tup _ => some "tuple"
  | .kt _ => some "tuple"
  | .dk _ _ => some "dict"
  | .dt _ _ => none
  | .dn _ _ => none
  | .obj _ _ _ => none
  | .own _ => none
  | .st _ _ => none
def isiD (T : String) (d : D) : Res D := match tyN d with
  | some n => match kitB n T with
    | some b => .ok (.bl b)
    | none => .bad
  | none => .bad
theorem RpB.ty {K : PySem.W.Frag} {cm : CM} {S H : Hp} {v : V} {d : D} {n : String} (h : RpB K cm S H v d) (ex : Ex S H) (q : tyN d = some n) : TyX K H v (.type n) := by
  cases d with
  | non => cases h.non; cases q; exact .base .non
  | bl b => cases h.bl; cases q; exact .base (.bl b)
  | int i => cases h.int; cases q; exact .base (.int i)
  | str s => cases h.str; cases q; exact .base (.str s)
  | lst ds => obtain ⟨p, xs, rfl, a, r⟩ := h.list ex; cases q; exact .base (.lst a)
  | fz ds =>
    obtain ⟨p, xs, rfl, a, r⟩ := h.fz ex; cases q
    rcases a with (a | ⟨o, a⟩) | ⟨o, its, m, a1, a2, _⟩
    · exact .base (.lst a)
    · exact .base (.frz a)
    · exact .kList a1 a2
  | tup ds =>
    obtain ⟨p, xs, rfl, a, r, s⟩ := h.tup ex; cases q
    rcases a with (a | ⟨o, a⟩) | ⟨o, its, m, a1, a2, _⟩
    · exact .base (.tup a)
    · exact .fTuple a
    · exact .kTuple a1 a2
  | dk ks vs =>
    obtain ⟨p, xs, rfl, a, r⟩ := h.dk ex; cases q
    rcases a with a | ⟨o, a⟩
    · exact .base (.dK a)
    · exact .fDict a
  | dt ks vs => cases q
  | dn ks vs => cases q
  | kt ds =>
    obtain ⟨p, xs, rfl, a, r, s⟩ := h.kt ex; cases q
    rcases a with (a | ⟨o, a⟩) | ⟨o, its, m, a1, a2, _⟩
    · exact .base (.tup a)
    · exact .fTuple a
    · exact .kTuple a1 a2
  | obj n ns vs => cases q
  | own k => cases q
  | st k M => cases q
/-- the class's name is a built-in's that stands as it was -/
theorem de_isi {x : Str} {pT : Pos} (T : String) (hm : X.mg "isinstance" = none) (hg : Gl X "isinstance") (gT : Gl X x) (mT : X.mg x = none) (bT : bootBuiltins x = some (.type T)) (ha : PE X e (tR c G f)) (hK : c.K = X.K := by rfl)
    (hn : x ≠ "__name__" := by decide) (hd : (x == ("__debug__" : Str)) = false := by decide)
    (hs1 : starEach [e, .Name x pT] X.env = (false, eval e X.env) :: starEach [.Name x pT] X.env := by rfl) (hs2 : starEach [.Name x pT] X.env = (false, eval (.Name x pT) X.env) :: starEach [] X.env := by rfl) (hpl : (backTo pos (starEach [.Name x pT] X.env)).any (·.1) = false := by rfl) :
    PE X (.Call (.Name "isinstance" p) [e, .Name x pT] [] pos) (tV c G (dUn (isiD T) f)) := by
  have hT : PE X (.Name x pT) (tC (.ty T)) := pe_bltn gT mT bT rfl hn hd
  refine pe_imp (pe_callB call_isi hg hm (by decide +kernel) (pa_cons ha (pa_cons hT pa_nil hs2) hs1) (he := hs1) (hpl := hpl)) fun σ H Q ⟨S0, H0, S, r, ok, p⟩ => rd_seq ok p fun d v S1 H1 w1 o1 m1 p1 => ?_
  unfold isiD at p1
  split at p1
  · rename_i n hn
    split at p1
    · rename_i b hb
      exact ⟨v, .ty T, .type n, .type T, b, rfl, .ty T, by rw [← hK]; exact RpB.ty m1 o1.ex hn, kit_ty hb, p1.go o1.ex _ (.bl _)⟩
    · exact p1.elim
  · exact p1.elim
noncomputable def ixD : D → D → Res D
  | .lst ds, .int i => match atI ds i with
    | some d => .ok d
    | none => .bad
  | .fz ds, .int i => match atI ds i with
    | some d => .ok d
    | none => .bad
  | .tup ds, .int i => match atI ds i with
    | some d => .ok d
    | none => .bad
  | .kt ds, .int i => match atI ds i with
    | some d => .ok d
    | none => .bad
  | .str z, .int i => guard (z.length ≤ sizeLine) (match atI z.cps.toList i with
    | some n => .ok (.str ⟨#[n]⟩)
    | none => .bad)
  | _, _ => .bad
theorem RpA.atI {K : PySem.W.Frag} {cm : CM} {S : Hp} {xs : List V} {ds : List D} {i : Int} {d : D} (h : RpA K cm S xs ds) (q : atI ds i = some d) : ∃ v, L2.atI xs i = some v ∧ Rp K cm S v d := by
  unfold L2.atI at q ⊢
  rw [h.length]
  cases hj : ixN ds.length i with
  | none => rw [hj] at q; cases q
  | some j => rw [hj] at q; exact h.get q
theorem os_ix : OpS c (mV c) (rIx c.K) ixD := by
  intro σ S H x y d e Q ex hx hy p
  unfold ixD at p
  split at p
  · split at p
    · rename_i hd
      obtain ⟨q, xs, rfl, a1, r1⟩ := hx.list ex
      cases hy.int
      obtain ⟨v, h1, h2⟩ := r1.atI hd
      exact .inl ⟨q, xs, _, v, rfl, rfl, .inl (.inl a1), h1, p.here ex h2⟩
    · exact p.elim
  · split at p
    · rename_i hd
      obtain ⟨q, xs, rfl, a1, r1⟩ := hx.fz ex
      cases hy.int
      obtain ⟨v, h1, h2⟩ := r1.atI hd
      exact .inl ⟨q, xs, _, v, rfl, rfl, a1, h1, p.here ex h2⟩
    · exact p.elim
  · split at p
    · rename_i hd
      obtain ⟨q, xs, rfl, a1, r1, s1⟩ := hx.tup ex
      cases hy.int
      obtain ⟨v, h1, h2⟩ := r1.atI hd
      exact .inr (.inl ⟨q, xs, _, v, rfl, rfl, a1, h1, p.here ex h2⟩)
    · exact p.elim
  · split at p
    · rename_i hd
      obtain ⟨q, xs, rfl, a1, r1, s1⟩ := hx.kt ex
      cases hy.int
      obtain ⟨v, h1, h2⟩ := r1.atI hd
      exact .inr (.inl ⟨q, xs, _, v, rfl, rfl, a1, h1, p.here ex h2⟩)
    · exact p.elim
  · obtain ⟨hl, p⟩ := p.gd
    cases hx.str; cases hy.int
    split at p
    · rename_i hd
      exact .inr (.inr ⟨_, _, _, rfl, rfl, hl, hd, p.here ex (.str _)⟩)
    · exact p.elim
  · exact p.elim
theorem de_ix (ha : PE X a (tR c G f1)) (hb : PE X b (tR c G f2)) (hs : PlainIx b) (hK : c.K = X.K := by rfl) : PE X (.Subscript a b pos) (tV c G (dOp ixD f1 f2)) :=
  pe_imp (pe_ix ix_seq ha hb hs) (by rw [← hK]; exact op_rd os_ix)
def cutL {α : Type} (xs : List α) (lo hi : Option Int) : List α := (xs.drop (HT.sIx xs.length 0 lo)).take (HT.sIx xs.length xs.length hi - HT.sIx xs.length 0 lo)
def asI : D → Res Int
  | .int i => .ok i
  | _ => .bad
def dNoP : Rho → Res (Option Int) := fun _ => .ok none
def dPart (f : Rho → Res D) : Rho → Res (Option Int) := fun r => (f r).bind fun d => (asI d).bind fun i => .ok (some i)
theorem po_imp {oe : Option Expr} {t t' : TO} (h : PO X oe t) (k : ∀ σ H Q, t' σ H Q → t σ H Q) : PO X oe t' := ⟨fun pins s σ H Q I q => h.run pins s σ H Q I (k σ H Q q)⟩
abbrev tP (c : Cf) (G : List Ow) (f : Rho → Res (Option Int)) : TO := rd c G f (mE (Option Int))
theorem dp_none : PO X none (tP c G dNoP) := po_imp po_none fun σ H Q ⟨S0, H0, S, r, ok, p⟩ => p.go ok.ex _ rfl
theorem of_asI {σ : St} {S H : Hp} {d : D} {k : Int → Hp → Hp → Prop} (p : PostG c σ S H (asI d) k) : ∃ i, d = .int i ∧ PostG c σ S H (.ok i) k := by
  cases d with
  | int i => exact ⟨i, rfl, p⟩
  | _ => exact p.elim
theorem dp_some (h : PE X e (tV c G f)) : PO X (some e) (tP c G (dPart f)) := po_imp (po_some h) fun σ H Q ⟨S0, H0, S, r, ok, p⟩ => rd_seq ok p fun d v S1 H1 w1 o1 m1 p1 => by
  obtain ⟨i, rfl, q1⟩ := of_asI p1.unbind
  cases m1
  exact ⟨i, rfl, (q1.go o1.ex).go o1.ex _ rfl⟩
variable {fl fh : Rho → Res (Option Int)} {lo hi : Option Expr} {p2 : Pos}
noncomputable def slD (d : D) (lo hi : Option Int) : Res D := match d with
  | .lst ds => .ok (.lst (cutL ds lo hi))
  | .fz ds => .ok (.lst (cutL ds lo hi))
  | .tup ds => .ok (.tup (cutL ds lo hi))
  | .str z => guard (z.length ≤ sizeLine) (.ok (.str (cutS z lo hi)))
  | _ => .bad
def dSl (g : D → Option Int → Option Int → Res D) (f : Rho → Res D) (fl fh : Rho → Res (Option Int)) : Rho → Res D := fun r => (f r).bind fun d => (fl r).bind fun l => (fh r).bind fun h => g d l h
def rSlX (K : PySem.W.Frag) : V → Option Int → Option Int → Hp → VK → Prop := fun x lo hi H Q => rSlL K x lo hi H Q ∨ rSlA K x lo hi H Q ∨ rSlS x lo hi H Q
theorem sl_x : SlR X (rSlX X.K) := sl_list.or (sl_tupA.or sl_str)
theorem RpA.cut {K : PySem.W.Frag} {cm : CM} {S : Hp} {xs : List V} {ds : List D} {lo hi : Option Int} (h : RpA K cm S xs ds) : RpA K cm S (cutV xs lo hi) (cutL ds lo hi) := by
  unfold cutV cutL
  rw [h.length]
  exact (h.drop _).take _
theorem cutV_whole {xs : List V} {lo hi : Option Int} (h : HT.sIx xs.length 0 lo = 0 ∧ HT.sIx xs.length xs.length hi = xs.length) : cutV xs lo hi = xs := by
  unfold cutV
  rw [h.1, h.2]
  simp
theorem de_sl (ha : PE X a (tR c G f)) (hl : PO X lo (tP c G fl)) (hh : PO X hi (tP c G fh)) (hK : c.K = X.K := by rfl) : PE X (.Subscript a (.Slice lo hi none p2) pos) (tV c G (dSl slD f fl fh)) :=
  pe_imp (pe_slice sl_x ha hl hh) fun σ H Q ⟨S0, H0, S, r, ok, p⟩ => rd_seq ok p fun d v S1 H1 w1 o1 m1 p1 => rd_seq o1 p1 fun l l' S2 H2 w2 o2 m2 p2 => rd_seq o2 p2 fun h h' S3 H3 w3 o3 m3 p3 => by
    have m1 := RpB.mono m1 (w2.s.trans w3.s) (w2.h.trans w3.h)
    rw [show l' = l from m2, show h' = h from m3, ← hK]
    cases d with
    | lst ds =>
      obtain ⟨q, xs, rfl, a1, r1⟩ := m1.list o3.ex
      exact .inl ⟨q, xs, rfl, .inl (.inl a1), fun q hq => PostG.laid p3 o3.ex hq (.lst upd_same (r1.cut.mono (Ex.new (o3.ex.nn hq))))⟩
    | fz ds =>
      obtain ⟨q, xs, rfl, a1, r1⟩ := m1.fz o3.ex
      exact .inl ⟨q, xs, rfl, a1, fun q hq => PostG.laid p3 o3.ex hq (.lst upd_same (r1.cut.mono (Ex.new (o3.ex.nn hq))))⟩
    | tup ds =>
      obtain ⟨q, xs, rfl, a1, r1, s1⟩ := m1.tup o3.ex
      refine .inr (.inl ⟨q, xs, rfl, a1, fun hw => p3.go o3.ex _ (.tup s1 ?_), fun _ q hq => PostG.laid p3 o3.ex hq (.tup upd_same (r1.cut.mono (Ex.new (o3.ex.nn hq))))⟩)
      have := r1.cut (lo := l) (hi := h)
      rw [cutV_whole hw] at this
      exact this
    | str z =>
      obtain ⟨hl, p3⟩ := p3.gd
      cases m1.str
      exact .inr (.inr ⟨z, rfl, hl, p3.go o3.ex _ (.str _)⟩)
    | _ => exact p3.elim
/-- a slice of a list, the new list one's own -/
def slL (d : D) (lo hi : Option Int) : Res D := match d with
  | .lst ds => .ok (.lst (cutL ds lo hi))
  | .fz ds => .ok (.lst (cutL ds lo hi))
  | _ => .bad
end
end Dx
end S_DxD
section S_DxE
set_option Elab.async false
set_option linter.all false
set_option maxRecDepth 100000
set_option maxHeartbeats 2000000
namespace Dx
open PySem L2
/-- what is wanted behind a statement -/
def PostS (c : Cf) (S0 H0 : Hp) (L G' : List Ow) (o : SR) (E : Ends) : Prop :=
  match o with
  | .nx r => ∀ σ' S' H', EnvOk c S0 H0 G' S' H' σ' r → E.nx σ' H'
  | .rt d => if c.rm then ∀ p ho S' H', Fwd S0 H0 S' H' → H0 p = none → S' p = none → H' p = some ho → RpO c.K c.cm S' ho d → E.rt (.ref p) H'
      else ∀ v S' H', Fwd S0 H0 S' H' → Rp c.K c.cm S' v d → E.rt v H'
  | .bk r => ∀ σ' S' H', EnvOk c S0 H0 L S' H' σ' r → E.bk σ' H'
  | .ct r => ∀ σ' S' H', EnvOk c S0 H0 L S' H' σ' r → E.ct σ' H'
  | .er r n ns vs => ∀ C dd σ' S' H' fs, c.cm n = some C → Fwd S0 H0 S' H' → (∀ g, c.ge = some g → EnvOk c S0 H0 g S' H' σ' r) → S' dd = some (.xd fs) → ns = fs.map (·.1) → RpA c.K c.cm S' (fs.map (·.2)) vs → c.W (.ref C) (some dd) σ' H'
  | .bad => False
def sD (c : Cf) (L G G' : List Ow) (F : Rho → SR) : TS := fun E σ H => ∃ S0 H0 S r, EnvOk c S0 H0 G S H σ r ∧ PostS c S0 H0 L G' (F r) E
def liftS {α : Type} (r : Rho) (x : Res α) (k : α → SR) : SR := match x with
  | .ok a => k a
  | .err n ns vs => .er r n ns vs
  | .bad => .bad
/-- where a try's clauses ask for the slots, the kinds are the ones told -/
def Gok (c : Cf) (G : List Ow) : Prop := ∀ g, c.ge = some g → g = G
section
variable {X : Cx} {c : Cf} {L G G' G'' : List Ow} {σ : St} {S0 H0 S H : Hp} {r : Rho} {α β : Type} {E : Ends}
theorem st_seq {f : Rho → Res α} {R : Md β α} (hg : Gok c G) (e : EnvOk c S0 H0 G S H σ r) {k : α → SR} (p : PostS c S0 H0 L G' (liftS r (f r) k) E) {Q : β → Hp → Prop}
    (h : ∀ a b S' H', Fwd S H S' H' → EnvOk c S0 H0 G S' H' σ r → R H S' H' b a → PostS c S0 H0 L G' (k a) E → Q b H') : rd c G f R σ H Q := by
  refine ⟨S0, H0, S, r, e, ?_⟩
  cases hf : f r with
  | ok a => rw [hf] at p; exact fun S' H' fw b hb => h a b S' H' fw (e.go fw) hb p
  | err n ns vs =>
    rw [hf] at p
    exact fun C dd S' H' fs h1 fw h2 h3 h4 => p C dd σ S' H' fs h1 (e.fwd.trans fw) (fun g q => by rw [hg g q]; exact e.go fw) h2 h3 h4
  | bad => rw [hf] at p; exact p.elim
/-- the stable part as the new base -/
theorem EnvOk.rebase (e : EnvOk c S0 H0 G S H σ r) : EnvOk c S H0 G S H σ r := ⟨⟨Ex.refl, e.fwd.h, e.fwd.sub, fun a o h n => (by rw [n] at h; cases h), e.fwd.tb⟩, e.len, e.slot, e.sep, e.sto⟩
theorem Fwd.unbase {S' H' : Hp} (f : Fwd S0 H0 S H) (g : Fwd S H0 S' H') : Fwd S0 H0 S' H' := ⟨f.s.trans g.s, g.h, g.sub, fun a o h n => (by
  cases q : S a with
  | some u => exact f.new a u q n
  | none => exact g.new a o h q), g.tb⟩
theorem EnvOk.unbase {S' H' : Hp} {σ' : St} {r' : Rho} (f : Fwd S0 H0 S H) (e : EnvOk c S H0 G' S' H' σ' r') : EnvOk c S0 H0 G' S' H' σ' r' := ⟨f.unbase e.fwd, e.len, e.slot, e.sep, e.sto⟩
theorem PostS.rebase {o : SR} (f : Fwd S0 H0 S H) (p : PostS c S0 H0 L G' o E) : PostS c S H0 L G' o E := by
  cases o with
  | nx r => exact fun σ' S' H' e => p σ' S' H' (e.unbase f)
  | rt d =>
    unfold PostS at p ⊢
    dsimp only at p ⊢
    split
    · rename_i h
      rw [if_pos h] at p
      exact fun q ho S' H' w => p q ho S' H' (f.unbase w)
    · rename_i h
      rw [if_neg h] at p
      exact fun v S' H' w => p v S' H' (f.unbase w)
  | bk r => exact fun σ' S' H' e => p σ' S' H' (e.unbase f)
  | ct r => exact fun σ' S' H' e => p σ' S' H' (e.unbase f)
  | er r n ns vs => exact fun C dd σ' S' H' fs h1 w h2 => p C dd σ' S' H' fs h1 (f.unbase w) fun g q => (h2 g q).unbase f
  | bad => exact p
def seqF (F K : Rho → SR) : Rho → SR := fun r => match F r with
  | .nx r' => K r'
  | o => o
theorem ds_nil : PSs X [] (sD c L G G .nx) := pss_imp pss_nil fun E σ H ⟨S0, H0, S, r, ok, p⟩ => p σ S H ok
theorem ds_cons {st : Stmt} {rest : List Stmt} {F K : Rho → SR} (h1 : PS X st (sD c L G G' F)) (h2 : PSs X rest (sD c L G' G'' K)) : PSs X (st :: rest) (sD c L G G'' (seqF F K)) := pss_imp (pss_cons h1 h2) fun E σ H ⟨S0, H0, S, r, ok, p⟩ => by
  refine ⟨S0, H0, S, r, ok, ?_⟩
  unfold seqF at p
  cases hF : F r with
  | nx r' => rw [hF] at p; exact fun σ' S' H' e => ⟨S0, H0, S', r', e, p⟩
  | rt d => rw [hF] at p; exact p
  | bk r' => rw [hF] at p; exact p
  | ct r' => rw [hF] at p; exact p
  | er r' n ns vs => rw [hF] at p; exact p
  | bad => rw [hF] at p; exact p.elim
theorem ds_one {st : Stmt} {F : Rho → SR} (h1 : PS X st (sD c L G G' F)) : PSs X [st] (sD c L G G' F) := pss_one h1
/-- an own object becomes a value, ahead of a block; behind one -/
theorem EnvOk.pubL (e : EnvOk c S0 H0 G S H σ r) (i : Nat) (hk : kd G i = .o ∨ kd G i = .v) : Lo (fun H => ∃ S', EnvOk c S0 H0 (G.set i .v) S' H σ r) H := by
  by_cases h : kd G i = .o ∧ ∃ d, r[i]? = some (some d) ∧ isDct d = true
  · obtain ⟨k, d, h1, h2⟩ := h
    exact .inr (e.pubD i k h1 h2)
  · by_cases k : kd G i = .o
    · exact .inl (e.pub i hk fun d hd => by
        cases q : isDct d with
        | false => rfl
        | true => exact (h ⟨k, d, hd, q⟩).elim)
    · have k' : kd G i = .v := hk.resolve_left k
      have all : ∀ j, kd (G.set i .v) j = kd G j := fun j => by
        by_cases ne : i = j
        · subst ne; rw [kd_set_self, k']
        · exact kd_set_ne ne
      exact .inl ⟨S, e.fwd, e.len, fun j b hb => by rw [all]; exact e.slot j b hb, fun j l b b' q hj hk kj kk sj sk => e.sep j l b b' q hj hk ((all j) ▸ kj) ((all l) ▸ kk) sj sk, e.sto_un i hk⟩
theorem Lo.imp {Q R : Hp → Prop} {H : Hp} (h : Lo Q H) (k : ∀ H, Q H → R H) : Lo R H := by
  rcases h with h | ⟨p, u, h1, h2, h⟩
  · exact .inl (k _ h)
  · exact .inr ⟨p, u, h1, h2, fun w => k _ (h w)⟩
theorem ds_pub {sts : List Stmt} {F : Rho → SR} (i : Nat) (h : PSs X sts (sD c L (G.set i .v) G' F)) (hk : kd G i = .o ∨ kd G i = .v) : PSs X sts (sD c L G G' F) := pss_lock h fun E σ H ⟨S0, H0, S, r, ok, p⟩ =>
  (ok.pubL i hk).imp fun H' ⟨S', ok'⟩ => ⟨S0, H0, S', r, ok', p⟩
theorem ds_pubE {sts : List Stmt} {F : Rho → SR} (i : Nat) (h : PSs X sts (sD c L G G' F)) (hk : kd G' i = .o ∨ kd G' i = .v) : PSs X sts (sD c L G (G'.set i .v) F) := pss_lockE h fun E σ H ⟨S0, H0, S, r, ok, p⟩ => by
  refine ⟨S0, H0, S, r, ok, ?_⟩
  cases hF : F r with
  | nx r' =>
    rw [hF] at p
    exact fun σ' S' H' e => (e.pubL i hk).imp fun H'' ⟨S'', e'⟩ => p σ' S'' H'' e'
  | rt d => rw [hF] at p; exact p
  | bk r' => rw [hF] at p; exact p
  | ct r' => rw [hF] at p; exact p
  | er r' n ns vs => rw [hF] at p; exact p
  | bad => rw [hF] at p; exact p.elim
variable {e : Expr} {pos : Pos} {f : Rho → Res D}
def setF (i : Nat) (f : Rho → Res D) : Rho → SR := fun r => liftS r (f r) fun d => .nx (r.set i (some d))
/-- x = e -/
theorem ds_set (i : Nat) {x : Str} {pos' : Pos} (hg : Gok c G) (hN : X.N.Nodup) (hi : X.N[i]? = some x) (hx : Loc X.env.scope x) (he : PE X e (tV c G f)) (hs : swapsWith e (some (.Name x pos')) pos.line X.env = pure false := by rfl)
    (hf : X.fn x = true ∨ X.env.scope.names.lookup x = some .local := by first | exact .inl rfl | exact .inr rfl | assumption) : PS X (.Assign [.Name x pos'] e pos) (sD c L G (G.set i .v) (setF i f)) :=
  ps_imp (ps_set hN hi hx he hs hf) fun E σ H ⟨S0, H0, S, r, ok, p⟩ => st_seq hg ok p fun d v S1 H1 w1 o1 m1 p1 => p1 _ S1 H1 (o1.setV i m1)
/-- x = e, a new object of one's own -/
theorem ds_setO (i : Nat) {x : Str} {pos' : Pos} (hg : Gok c G) (hG : i < G.length) (hN : X.N.Nodup) (hi : X.N[i]? = some x) (hx : Loc X.env.scope x) (he : PE X e (tO c G f)) (hs : swapsWith e (some (.Name x pos')) pos.line X.env = pure false := by rfl)
    (hf : X.fn x = true ∨ X.env.scope.names.lookup x = some .local := by first | exact .inl rfl | exact .inr rfl | assumption) : PS X (.Assign [.Name x pos'] e pos) (sD c L G (G.set i .o) (setF i f)) :=
  ps_imp (ps_set hN hi hx he hs hf) fun E σ H ⟨S0, H0, S, r, ok, p⟩ => st_seq hg ok p fun d v S1 H1 w1 o1 m1 p1 => by
    obtain ⟨q, ho, rfl, n, ns, hp, h⟩ := m1
    exact p1 _ S1 H1 (ok.setO w1 i hG n ns hp h)
def retF (f : Rho → Res D) : Rho → SR := fun r => liftS r (f r) .rt
theorem ds_ret (hg : Gok c G) (hr : c.rm = false) (he : PE X e (tV c G f)) : PS X (.Return (some e) pos) (sD c L G G' (retF f)) := ps_imp (ps_ret he) fun E σ H ⟨S0, H0, S, r, ok, p⟩ => st_seq hg ok p fun d v S1 H1 w1 o1 m1 p1 => by
  unfold PostS at p1
  rw [hr] at p1
  exact p1 v S1 H1 o1.fwd m1
theorem ds_retO (hg : Gok c G) (hr : c.rm = true) (he : PE X e (tO c G f)) : PS X (.Return (some e) pos) (sD c L G G' (retF f)) := ps_imp (ps_ret he) fun E σ H ⟨S0, H0, S, r, ok, p⟩ => st_seq hg ok p fun d v S1 H1 w1 o1 m1 p1 => by
  unfold PostS at p1
  rw [hr] at p1
  obtain ⟨q, ho, rfl, n, ns, hp, h⟩ := m1
  exact p1 q ho S1 H1 o1.fwd (ok.fwd.h.nn n) ns hp h
def dropF {α : Type} (f : Rho → Res α) : Rho → SR := fun r => liftS r (f r) fun _ => .nx r
theorem ds_expr {R : Md V D} (hg : Gok c G) (he : PE X e (rd c G f R)) (hs : swapsWith e none pos.line X.env = pure false := by rfl) : PS X (.Expr e pos) (sD c L G G (dropF f)) := ps_imp (ps_expr he hs) fun E σ H ⟨S0, H0, S, r, ok, p⟩ =>
  st_seq hg ok p fun d v S1 H1 w1 o1 m1 p1 => p1 σ S1 H1 o1
def ifF (t : Rho → Res Bool) (F K : Rho → SR) : Rho → SR := fun r => liftS r (t r) fun b => if b = true then F r else K r
theorem ds_if {cnd : Expr} {sa sb : List Stmt} {t : Rho → Res Bool} {F K : Rho → SR} (hg : Gok c G) (hc : PT X cnd (tT c G t)) (ha : PSs X sa (sD c L G G' F)) (hb : PSs X sb (sD c L G G' K)) : PS X (.If cnd sa sb pos) (sD c L G G' (ifF t F K)) :=
  ps_imp (ps_if hc ha hb) fun E σ H ⟨S0, H0, S, r, ok, p⟩ => st_seq hg ok p fun x v S1 H1 w1 o1 m1 p1 => by
    rw [show v = x from m1]
    cases x with
    | true => exact ⟨S0, H0, S1, r, o1, p1⟩
    | false => exact ⟨S0, H0, S1, r, o1, p1⟩
variable {a b : Expr} {f1 f2 : Rho → Res D} {apos cpos p' : Pos}
/-- the own list in slot i -/
def ownL (i : Nat) (r : Rho) : Res (List D) := match r[i]? with
  | some (some (.lst ds)) => .ok ds
  | _ => .bad
theorem of_ownL {i : Nat} {k : List D → SR} (e : EnvOk c S0 H0 G S H σ r) (kd' : kd G i = .o) (p : PostS c S0 H0 L G' (liftS r (ownL i r) k) E) :
    ∃ q xs ds, r[i]? = some (some (.lst ds)) ∧ σ[i]? = some (some (.ref q)) ∧ H q = some (.lst xs) ∧ RpA c.K c.cm S xs ds ∧ PostS c S0 H0 L G' (k ds) E := by
  unfold ownL at p
  split at p
  · rename_i ds hd
    obtain ⟨q, ho, s1, s2, s3, s4, s5⟩ := e.own kd' hd
    cases s5 with
    | lst r1 => exact ⟨q, _, ds, hd, s1, s2, r1, p⟩
  · exact p.elim
noncomputable def guardS (p : Prop) (x : SR) : SR := @ite _ p (Classical.propDecidable p) x .bad
theorem guardS_pos {p : Prop} {x : SR} (h : p) : guardS p x = x := by unfold guardS; exact if_pos h
noncomputable def appF (i : Nat) (f : Rho → Res D) : Rho → SR := fun r => liftS r (ownL i r) fun ds => liftS r (f r) fun d => guardS (ds.length < sizeLine) (.nx (r.set i (some (.lst (ds ++ [d])))))
theorem PostS.ite {p : Prop} [Decidable p] {x : SR} (h : PostS c S0 H0 L G' (if p then x else .bad) E) : p ∧ PostS c S0 H0 L G' x E := by
  by_cases hp : p
  · rw [if_pos hp] at h; exact ⟨hp, h⟩
  · rw [if_neg hp] at h; exact h.elim
theorem PostS.gd {p : Prop} {x : SR} (h : PostS c S0 H0 L G' (guardS p x) E) : p ∧ PostS c S0 H0 L G' x E := by
  by_cases hp : p
  · rw [guardS_pos hp] at h; exact ⟨hp, h⟩
  · unfold guardS at h; rw [if_neg hp] at h; exact h.elim
theorem pe_app {o : Expr} {to te : TE} (ho : PE X o to) (he : PE X e te) (hbase : attributeBase o "append" X.env (eval o X.env) = eval o X.env := by rfl)
    (hfew : ((backTo cpos (starEach [e] X.env)).all (fun x => !x.1) && (backToKw cpos (keywordEach [] X.env)).all (fun x => x.1.isSome) && decide ([e].length + ([] : List Keyword).length + (if ([] : List Keyword).isEmpty then 0 else 1) < 30)) = true := by rfl)
    (hline : (apos.endLine == cpos.line) = true := by rfl) (hs : starEach [e] X.env = (false, eval e X.env) :: starEach [] X.env := by rfl) :
    PE X (.Call (.Attribute o "append" apos) [e] [] cpos) (tBM X.K "list" rAppend to (tCons te tNil)) :=
  pe_bm PySem.F.plainAttrs_list PySem.F.slot_list_append PySem.F.type_list_append mt_append ho (pa_cons he pa_nil hs) hbase hfew hline hs rfl
theorem ds_app (i : Nat) {x : Str} {pn : Pos} (hg : Gok c G) (k : kd G i = .o) (ho : PE X (.Name x pn) (tVar i)) (he : PE X e (tV c G f)) (hw : swapsWith (.Call (.Attribute (.Name x pn) "append" apos) [e] [] cpos) none pos.line X.env = pure false := by rfl)
    (hbase : attributeBase (.Name x pn) "append" X.env (eval (.Name x pn) X.env) = eval (.Name x pn) X.env := by rfl)
    (hfew : ((backTo cpos (starEach [e] X.env)).all (fun x => !x.1) && (backToKw cpos (keywordEach [] X.env)).all (fun x => x.1.isSome) && decide ([e].length + ([] : List Keyword).length + (if ([] : List Keyword).isEmpty then 0 else 1) < 30)) = true := by rfl)
    (hline : (apos.endLine == cpos.line) = true := by rfl) (hs : starEach [e] X.env = (false, eval e X.env) :: starEach [] X.env := by rfl) :
    PS X (.Expr (.Call (.Attribute (.Name x pn) "append" apos) [e] [] cpos) pos) (sD c L G G (appF i f)) :=
  ps_imp (ps_expr (pe_app ho he hbase hfew hline hs) hw) fun E σ H ⟨S0, H0, S, r, ok, p⟩ => by
    obtain ⟨q, xs, ds, hd, z1, z2, z3, p1⟩ := of_ownL ok k p
    refine ⟨.ref q, z1, .inl ⟨rfl, xs, .inl (.inl z2)⟩, st_seq hg ok p1 fun d v S1 H1 w1 o1 m1 p2 => ?_⟩
    obtain ⟨hl, p2⟩ := p2.gd
    exact ⟨q, xs, v, rfl, rfl, w1.h _ _ z2, by rw [z3.length]; exact hl, p2 σ S1 _ (o1.mut k hd z1 (.lst ((z3.mono w1.s).app (.one m1))))⟩
/-- x[i] = e, x an own list -/
def stoF (i : Nat) (fi f : Rho → Res D) : Rho → SR := fun r => liftS r (f r) fun d => liftS r (ownL i r) fun ds => liftS r (fi r) fun k => liftS r (asI k) fun k => match ixN ds.length k with
  | some j => .nx (r.set i (some (.lst (ds.set j d))))
  | none => .bad
theorem ds_sto (i : Nat) {x : Str} {pn : Pos} {ix : Expr} {fi : Rho → Res D} (hg : Gok c G) (k : kd G i = .o) (ho : PE X (.Name x pn) (tVar i)) (hi : PE X ix (tV c G fi)) (he : PE X e (tV c G f))
    (ha : ∀ v, assign (.Subscript (.Name x pn) ix p') X.env v = (do
      let ov ← holding [v] (eval (.Name x pn) X.env)
      let iv ← holding [v, ov] (eval ix X.env)
      standAt p'
      holding [v, ov, iv] (setItem ov iv v)
      release [v, ov, iv] []) := by intro _; rfl)
    (hs : swapsWithSole [.Subscript (.Name x pn) ix p'] e pos.line X.env = pure false := by rfl) (hw : swappedStores [.Subscript (.Name x pn) ix p'] e X.env = pure none := by rfl)
    (h1 : (assignEach [.Subscript (.Name x pn) ix p'] X.env).map (·.2) = [assign (.Subscript (.Name x pn) ix p') X.env] := by rfl) :
    PS X (.Assign [.Subscript (.Name x pn) ix p'] e pos) (sD c L G G (stoF i fi f)) :=
  ps_imp (ps_asg he (pg_sub ho hi set_list ha) hs hw h1) fun E σ H ⟨S0, H0, S, r, ok, p⟩ => st_seq hg ok p fun d v S1 H1 w1 o1 m1 p1 => by
    obtain ⟨q, xs, ds, hd, z1, z2, z3, p2⟩ := of_ownL o1 k p1
    refine ⟨.ref q, z1, st_seq hg o1 p2 fun kk u S2 H2 w2 o2 m2 p3 => ?_⟩
    cases kk with
    | int j =>
      cases m2
      dsimp only [asI, liftS] at p3
      split at p3
      · rename_i n hn
        refine ⟨q, xs, j, n, rfl, rfl, w2.h _ _ z2, by rw [z3.length]; exact hn, p3 σ S2 _ (o2.mut k hd z1 (.lst (RpA.set (Rp.mono w2.s m1) n (z3.mono w2.s))))⟩
      · exact p3.elim
    | _ => exact p3.elim
/-- what is wanted behind a target -/
def PostR (c : Cf) (S0 H0 S H : Hp) (G' : List Ow) (σ : St) (ks : List Nat) (x : Res Rho) (Q : St → Hp → Prop) : Prop := match x with
  | .ok r' => ∀ σ', wipe σ' ks = wipe σ ks → EnvOk c S0 H0 G' S H σ' r' → Q σ' H
  | _ => False
theorem wipe_get (σ : St) : ∀ (vs : List Nat) (i : Nat), (wipe σ vs)[i]? = if i ∈ vs then σ[i]?.map (fun _ => none) else σ[i]?
  | [], i => by simp [wipe]
  | v :: vs, i => by
    show ((wipe σ vs).set v none)[i]? = _
    by_cases h : v = i
    · subst h
      rw [List.getElem?_set, if_pos rfl, wipe_length, if_pos (List.mem_cons_self)]
      split
      · rename_i hl; simp [List.getElem?_eq_getElem hl]
      · rename_i hl; rw [List.getElem?_eq_none (by omega)]; rfl
    · rw [List.getElem?_set_ne h, wipe_get σ vs i]
      have : (i ∈ v :: vs) ↔ i ∈ vs := by simp [List.mem_cons, Ne.symm h]
      simp only [this]
theorem wipe_set {σ : St} {i : Nat} {x : Option V} : wipe (σ.set i x) [i] = wipe σ [i] := by
  show (σ.set i x).set i none = σ.set i none
  exact List.set_set _
theorem wipe_len {σ σ' : St} {ks : List Nat} (h : wipe σ' ks = wipe σ ks) : σ'.length = σ.length := by
  have := congrArg List.length h
  rw [wipe_length, wipe_length] at this
  exact this
theorem wipe_get_eq {σ σ' : St} {ks : List Nat} (h : wipe σ' ks = wipe σ ks) {i : Nat} (hi : i ∉ ks) : σ'[i]? = σ[i]? := by
  have := congrArg (fun l : St => l[i]?) h
  simp only [wipe_get, if_neg hi] at this
  exact this
theorem wipe_app {σ σ1 σ2 : St} {k1 k2 : List Nat} (h1 : wipe σ1 k1 = wipe σ k1) (h2 : wipe σ2 k2 = wipe σ1 k2) : wipe σ2 (k1 ++ k2) = wipe σ (k1 ++ k2) := by
  have l1 := wipe_len h1
  have l2 := wipe_len h2
  apply List.ext_getElem?
  intro i
  rw [wipe_get, wipe_get]
  by_cases hi : i ∈ k1 ++ k2
  · rw [if_pos hi, if_pos hi]
    by_cases hl : i < σ.length
    · rw [List.getElem?_eq_getElem hl, List.getElem?_eq_getElem (show i < σ2.length by omega)]; rfl
    · rw [List.getElem?_eq_none (by omega), List.getElem?_eq_none (by omega)]
  · rw [if_neg hi, if_neg hi]
    have a1 : i ∉ k1 := fun z => hi (List.mem_append_left _ z)
    have a2 : i ∉ k2 := fun z => hi (List.mem_append_right _ z)
    rw [wipe_get_eq h2 a2, wipe_get_eq h1 a1]
/-- a target by data -/
def gD (c : Cf) (G G' : List Ow) (ks : List Nat) (t : D → Rho → Res Rho) : TG := fun v σ H Q => ∃ S0 H0 S r d, EnvOk c S0 H0 G S H σ r ∧ Rp c.K c.cm S v d ∧ PostR c S0 H0 S H G' σ ks (t d r) Q
theorem pg_imp {tg : Expr} {t t' : TG} (h : PG X tg t) (k : ∀ v σ H Q, t' v σ H Q → t v σ H Q) : PG X tg t' := ⟨fun pins s σ H v u Q I r q => h.run pins s σ H v u Q I r (k v σ H Q q)⟩
theorem pgs_imp {tg : List Expr} {t t' : TGs} (h : PGs X tg t) (k : ∀ v σ H Q, t' v σ H Q → t v σ H Q) : PGs X tg t' := ⟨fun pins s σ H v u Q I r q => h.run pins s σ H v u Q I r (k v σ H Q q)⟩
def tgN (i : Nat) : D → Rho → Res Rho := fun d r => .ok (r.set i (some d))
theorem dg_name (i : Nat) {x : Str} (hN : X.N.Nodup) (hi : X.N[i]? = some x) (hx : Loc X.env.scope x) (hf : X.fn x = true ∨ X.env.scope.names.lookup x = some .local := by first | exact .inl rfl | exact .inr rfl | assumption) :
    PG X (.Name x pos) (gD c G (G.set i .v) [i] (tgN i)) := pg_imp (pg_name hN hi hx hf) fun v σ H Q ⟨S0, H0, S, r, d, ok, hv, p⟩ => p _ wipe_set (ok.setV i hv)
def gDs (c : Cf) (G G' : List Ow) (ks : List Nat) (t : List D → Rho → Res Rho) : TGs := fun vs σ H Q => ∃ S0 H0 S r ds, EnvOk c S0 H0 G S H σ r ∧ RpA c.K c.cm S vs ds ∧ PostR c S0 H0 S H G' σ ks (t ds r) Q
def tgNil : List D → Rho → Res Rho
  | [], r => .ok r
  | _ :: _, _ => .bad
def tgCons (t : D → Rho → Res Rho) (u : List D → Rho → Res Rho) : List D → Rho → Res Rho
  | [], _ => .bad
  | d :: ds, r => (t d r).bind (u ds)
theorem dg_nil : PGs X [] (gDs c G G [] tgNil) := pgs_imp pgs_nil fun vs σ H Q ⟨S0, H0, S, r, ds, ok, hv, p⟩ => by
  cases hv with
  | nil => exact ⟨rfl, p σ rfl ok⟩
  | cons _ _ => exact p.elim
theorem dg_cons {es : List Expr} {t : D → Rho → Res Rho} {u : List D → Rho → Res Rho} {k1 k2 : List Nat} (h1 : PG X e (gD c G G' k1 t)) (h2 : PGs X es (gDs c G' G'' k2 u)) (hs : (assignEach (e :: es) X.env).map (·.2) = assign e X.env :: (assignEach es X.env).map (·.2) := by rfl) :
    PGs X (e :: es) (gDs c G G'' (k1 ++ k2) (tgCons t u)) := pgs_imp (pgs_cons h1 h2 hs) fun vs σ H Q ⟨S0, H0, S, r, ds, ok, hv, p⟩ => by
  cases hv with
  | nil => exact p.elim
  | @cons v vs d ds hv hr =>
    refine ⟨v, vs, rfl, S0, H0, S, r, d, ok, hv, ?_⟩
    have p : PostR c S0 H0 S H G'' σ (k1 ++ k2) ((t d r).bind (u ds)) Q := p
    cases ht : t d r with
    | ok r1 =>
      rw [ht] at p
      intro σ1 z1 ok1
      refine ⟨S0, H0, S, r1, ds, ok1, hr, ?_⟩
      have p : PostR c S0 H0 S H G'' σ (k1 ++ k2) (u ds r1) Q := p
      cases hu : u ds r1 with
      | ok r2 => rw [hu] at p; exact fun σ2 z2 ok2 => p σ2 (wipe_app z1 z2) ok2
      | err _ _ _ => rw [hu] at p; exact p.elim
      | bad => rw [hu] at p; exact p.elim
    | err _ _ _ => rw [ht] at p; exact p.elim
    | bad => rw [ht] at p; exact p.elim
def tgT (n : Nat) (u : List D → Rho → Res Rho) : D → Rho → Res Rho := fun d r => match d with
  | .tup ds => if ds.length = n then u ds r else .bad
  | .kt ds => if ds.length = n then u ds r else .bad
  | _ => .bad
theorem dg_tup {es : List Expr} {k n : Nat} {ks : List Nat} {u : List D → Rho → Res Rho} (hc : X.calm = true) (h : PGs X es (gDs c G G' ks u)) (hn : (assignEach es X.env).length = n := by rfl) (hst : (assignEach es X.env).findIdx? (·.1) = none := by rfl) (hK : c.K = X.K := by rfl) :
    PG X (.Tuple es k pos) (gD c G G' ks (tgT n u)) := pg_imp (pg_tup hc h hn hst) fun v σ H Q ⟨S0, H0, S, r, d, ok, hv, p⟩ => by
  unfold tgT at p
  cases hv with
  | @kt a xs ds q rr =>
    dsimp only at p
    by_cases hl : ds.length = n
    · rw [if_pos hl] at p
      exact ⟨a, xs, rfl, by rw [← hK]; exact ok.ex.t q, by rw [rr.length]; exact hl, S0, H0, S, r, ds, ok, rr, p⟩
    · rw [if_neg hl] at p; exact p.elim
  | @tup a xs ds q rr =>
    dsimp only at p
    by_cases hl : ds.length = n
    · rw [if_pos hl] at p
      exact ⟨a, xs, rfl, by rw [← hK]; exact .inl (.inl (ok.ex _ _ q)), by rw [rr.length]; exact hl, S0, H0, S, r, ds, ok, rr, p⟩
    · rw [if_neg hl] at p; exact p.elim
  | _ => exact p.elim
def asgF (t : D → Rho → Res Rho) (f : Rho → Res D) : Rho → SR := fun r => liftS r (f r) fun d => match t d r with
  | .ok r' => .nx r'
  | _ => .bad
/-- target = e -/
theorem ds_asg {tg : Expr} {ks : List Nat} {t : D → Rho → Res Rho} (hg : Gok c G) (he : PE X e (tV c G f)) (ht : PG X tg (gD c G G' ks t)) (hs : swapsWithSole [tg] e pos.line X.env = pure false := by rfl) (hw : swappedStores [tg] e X.env = pure none := by rfl)
    (h1 : (assignEach [tg] X.env).map (·.2) = [assign tg X.env] := by rfl) : PS X (.Assign [tg] e pos) (sD c L G G' (asgF t f)) := ps_imp (ps_asg he ht hs hw h1) fun E σ H ⟨S0, H0, S, r, ok, p⟩ => st_seq hg ok p fun d v S1 H1 w1 o1 m1 p1 => by
  refine ⟨S0, H0, S1, r, d, o1, m1, ?_⟩
  cases ht : t d r with
  | ok r' => rw [ht] at p1; exact fun σ' _ ok' => p1 σ' S1 H1 ok'
  | err _ _ _ => rw [ht] at p1; exact p1.elim
  | bad => rw [ht] at p1; exact p1.elim
/-- x, y = a, b -/
def parF (i j : Nat) (f1 f2 : Rho → Res D) : Rho → SR := fun r => liftS r (dCons f1 (dCons f2 dNil) r) fun ds => match ds with
  | [d, e] => .nx ((r.set i (some d)).set j (some e))
  | _ => .bad
theorem ds_par (i j : Nat) {x y : Str} {px py pt pt2 : Pos} {kt k2 : Nat} (hg : Gok c G) (hc : X.calm = true) (hN : X.N.Nodup) (hi : X.N[i]? = some x) (hj : X.N[j]? = some y) (hij : i ≠ j)
    (hx : X.env.scope.names.lookup x = some .local) (hy : X.env.scope.names.lookup y = some .local) (ha : PE X a (tV c G f1)) (hb : PE X b (tV c G f2))
    (hw : swappedStores [.Tuple [.Name x px, .Name y py] kt pt] (.Tuple [a, b] k2 pt2) X.env = pure (some [x, y]))
    (hs : swapsWithSole [.Tuple [.Name x px, .Name y py] kt pt] (.Tuple [a, b] k2 pt2) pos.line X.env = pure false := by rfl)
    (hs1 : starEach [a, b] X.env = (false, eval a X.env) :: starEach [b] X.env := by rfl) (hs2 : starEach [b] X.env = (false, eval b X.env) :: starEach [] X.env := by rfl) :
    PS X (.Assign [.Tuple [.Name x px, .Name y py] kt pt] (.Tuple [a, b] k2 pt2) pos) (sD c L G ((G.set i .v).set j .v) (parF i j f1 f2)) :=
  ps_imp (ps_par hc hN hi hj hij hx hy (da_cons ha (da_cons hb da_nil hs2) hs1) hw hs) fun E σ H ⟨S0, H0, S, r, ok, p⟩ => st_seq hg ok p fun ds vs S1 H1 w1 o1 m1 p1 => by
    match ds, m1, p1 with
    | [d, e], .cons hd (.cons he .nil), p1 => exact ⟨_, _, rfl, p1 _ S1 H1 ((o1.setV i hd).setV j he)⟩
    | [], _, p1 => exact p1.elim
    | [_], _, p1 => exact p1.elim
    | _ :: _ :: _ :: _, _, p1 => exact p1.elim
def YOk (c : Cf) (S' : Hp) (ds : List D) (Y : Nat → Hp → V → Hp → Prop) : Prop := ∀ i S1 H1 x H2, i < ds.length → Ex S' S1 → Ex S1 H1 → Y i H1 x H2 → ∃ S2 d, Fwd S1 H1 S2 H2 ∧ ds[i]? = some d ∧ Rp c.K c.cm S2 x d
/-- the iterator J gives the data ds -/
def Gives (c : Cf) (H0 S' : Hp) (J : It) (ds : List D) : Prop := ∃ Gd Y, Walk J ds.length Gd Y ∧ (∀ S'' H'', Ex S' S'' → Ex S'' H'' → Ex H0 H'' → Gd H'') ∧ YOk c S' ds Y
def iD (c : Cf) (G : List Ow) (f : Rho → Res (List D)) : TI := fun σ H R => ∃ S0 H0 S r, EnvOk c S0 H0 G S H σ r ∧ PostG c σ S H (f r) fun ds S' H' => ∀ J, Gives c H0 S' J ds → R J H'
theorem pi_imp {tg it : Expr} {t t' : TI} (h : PI X tg it t) (k : ∀ σ H R, t' σ H R → t σ H R) : PI X tg it t' := ⟨fun pins s σ H R I q => h.run pins s σ H R I (k σ H R q)⟩
def dIt (g : D → Res (List D)) (f : Rho → Res D) : Rho → Res (List D) := fun r => (f r).bind g
theorem gives_list {c : Cf} {H0 S : Hp} {q : Addr} {xs : List V} {ds : List D} (h : SqL c.K S q xs) (rr : RpA c.K c.cm S xs ds) : Gives c H0 S (Itl c.K q) ds := by
  refine ⟨_, _, by rw [← rr.length]; exact walk_list (K := c.K) (a := q) (xs := xs), fun S'' H'' e1 e2 _ => e2.l (e1.l h), fun i S1 H1 x H2 hi e1 e2 y => ?_⟩
  obtain ⟨rfl, hx⟩ := y
  obtain ⟨d, h1, h2⟩ := rr.getV hx
  exact ⟨S1, d, Fwd.refl e2, h1, h2.mono e1⟩
theorem gives_tup {c : Cf} {H0 S : Hp} {q : Addr} {xs : List V} {ds : List D} (h : SqT c.K S q xs) (rr : RpA c.K c.cm S xs ds) : Gives c H0 S (Itt c.K q) ds := by
  refine ⟨_, _, by rw [← rr.length]; exact walk_tup (K := c.K) (a := q) (xs := xs), fun S'' H'' e1 e2 _ => e2.t (e1.t h), fun i S1 H1 x H2 hi e1 e2 y => ?_⟩
  obtain ⟨rfl, hx⟩ := y
  obtain ⟨d, h1, h2⟩ := rr.getV hx
  exact ⟨S1, d, Fwd.refl e2, h1, h2.mono e1⟩
variable {tg : Expr}
theorem di_list (he : PE X e (tV c G f)) (hK : c.K = X.K := by rfl) : PI X tg e (iD c G (dIt itemsL f)) := pi_imp (pi_list he) fun σ H R ⟨S0, H0, S, r, ok, p⟩ => rd_seq ok p fun d v S1 H1 w1 o1 m1 p1 => by
  rw [← hK]
  cases d with
  | lst ds =>
    cases m1 with | @lst q xs _ h rr =>
    exact ⟨q, rfl, ⟨xs, .inl (.inl (o1.ex _ _ h))⟩, p1.go o1.ex _ (gives_list (.inl (.inl h)) rr)⟩
  | fz ds =>
    cases m1 with | @fz q xs _ h rr =>
    exact ⟨q, rfl, ⟨xs, o1.ex.l h⟩, p1.go o1.ex _ (gives_list h rr)⟩
  | _ => exact p1.elim
theorem di_tup (he : PE X e (tV c G f)) (hK : c.K = X.K := by rfl) : PI X tg e (iD c G (dIt itemsT f)) := pi_imp (pi_tup he) fun σ H R ⟨S0, H0, S, r, ok, p⟩ => rd_seq ok p fun d v S1 H1 w1 o1 m1 p1 => by
  rw [← hK]
  cases d with
  | tup ds =>
    cases m1 with | @tup q xs _ h rr =>
    exact ⟨q, rfl, ⟨xs, .inl (.inl (o1.ex _ _ h))⟩, p1.go o1.ex _ (gives_tup (.inl (.inl h)) rr)⟩
  | _ => exact p1.elim
/-- range(n), range(a, b) -/
def rngL (lo : Int) (n : Nat) : List D := (List.range n).map fun (i : Nat) => D.int (lo + (i : Int))
theorem gives_rng {c : Cf} {H0 S : Hp} {lo : Int} {n : Nat} : Gives c H0 S (Itr lo n) (rngL lo n) := by
  have hl : (rngL lo n).length = n := by unfold rngL; simp
  refine ⟨_, _, by rw [hl]; exact walk_range, fun _ _ _ _ _ => trivial, fun i S1 H1 x H2 hi e1 e2 y => ?_⟩
  obtain ⟨rfl, rfl⟩ := y
  rw [hl] at hi
  exact ⟨S1, .int (lo + (i : Int)), Fwd.refl e2, by unfold rngL; simp [hi], .int _⟩
noncomputable def rng1 : List D → Res (List D)
  | [.int n] => guard (-4611686018427387904 ≤ n ∧ n < 4611686018427387904) (.ok (rngL 0 n.toNat))
  | _ => .bad
def dIts (g : List D → Res (List D)) (fs : Rho → Res (List D)) : Rho → Res (List D) := fun r => (fs r).bind g
theorem di_rng1 {p : Pos} {fs : Rho → Res (List D)} (hm : X.mg "range" = none) (hg : Gl X "range") (ha : PA X [a] (tAs c G fs)) (hs : starEach [a] X.env = [(false, eval a X.env)] := by rfl) : PI X tg (.Call (.Name "range" p) [a] [] pos) (iD c G (dIts rng1 fs)) :=
  pi_imp (pi_range1 hg hm ha hs) fun σ H R ⟨S0, H0, S, r, ok, p⟩ => rd_seq ok p fun ds vs S1 H1 w1 o1 m1 p1 => by
    unfold rng1 at p1
    split at p1
    · obtain ⟨hl, p1⟩ := p1.gd
      match vs, m1 with
      | _, .cons h .nil => cases h; exact ⟨_, rfl, by have := hl.1; omega, by have := hl.2; omega, p1.go o1.ex _ gives_rng⟩
    · exact p1.elim
/-- the signs of a text -/
def signs (z : Str) : List D := z.cps.toList.map fun n => .str ⟨#[n]⟩
def itemsS : D → Res (List D)
  | .str z => .ok (signs z)
  | _ => .bad
def loopF (t : D → Rho → Res Rho) (F : Rho → SR) : List D → Rho → SR
  | [], r => .nx r
  | d :: ds, r => match t d r with
    | .ok r1 => match F r1 with
      | .nx r2 => loopF t F ds r2
      | .ct r2 => loopF t F ds r2
      | .bk r2 => .nx r2
      | o => o
    | _ => .bad
def forF (its : Rho → Res (List D)) (t : D → Rho → Res Rho) (F : Rho → SR) : Rho → SR := fun r => liftS r (its r) fun ds => loopF t F ds r
theorem ds_for {iter : Expr} {body : List Stmt} {its : Rho → Res (List D)} {ks : List Nat} {t : D → Rho → Res Rho} {F : Rho → SR} (hg : Gok c G) (hp : PassesOwn (model X.prog X.w) X.A X.env X.xe) (hc : X.calm = true) (hi : PI X tg iter (iD c G its)) (ht : PG X tg (gD c G G' ks t)) (hb : PSs X body (sD c G G' G F))
    (hs : ∀ x, foldedSetIterable iter X.env x = pure x := by intro _; rfl) : PS X (.For tg iter body [] pos) (sD c L G G (forF its t F)) :=
  ps_imp (ps_for hp hc hi ht hb hs) fun E σ H ⟨S0, H0, S, r, ok, p⟩ => by
    refine ⟨S0, H0, S, r, ok, ?_⟩
    unfold forF at p
    cases hf : its r with
    | err n ns vs =>
      rw [hf] at p
      exact fun C dd S' H' fs h1 fw h2 h3 h4 => p C dd σ S' H' fs h1 (ok.fwd.trans fw) (fun g q => by rw [hg g q]; exact ok.go fw) h2 h3 h4
    | bad => rw [hf] at p; exact p.elim
    | ok ds =>
      rw [hf] at p
      intro S1 H1 w1 J ⟨Gd, Y, wk, hG, hY⟩
      have p : PostS c S0 H0 L G (loopF t F ds r) E := p
      refine for_it wk (fun i σ' H' => ∃ S' r', Ex S1 S' ∧ EnvOk c S0 H0 G S' H' σ' r' ∧ PostS c S0 H0 L G (loopF t F (ds.drop i) r') E) ⟨S1, r, Ex.refl, ok.go w1, by rw [List.drop_zero]; exact p⟩ ?_ ?_ ?_
      · rintro i σ' H' _ ⟨S', r', e1, ok', _⟩
        exact hG S' H' e1 ok'.ex ok'.fwd.h
      · rintro i x σ' H' H2 hi ⟨S', r', e1, ok', p'⟩ y
        obtain ⟨S2, d, fw, hd, hx⟩ := hY i S' H' x H2 hi e1 ok'.ex y
        have hdrop : ds.drop i = d :: ds.drop (i + 1) := by
          rw [List.drop_eq_getElem_cons hi]
          rw [List.getElem?_eq_getElem hi] at hd
          cases hd; rfl
        rw [hdrop] at p'
        unfold loopF at p'
        refine ⟨S0, H0, S2, r', d, ok'.go fw, hx, ?_⟩
        cases htt : t d r' with
        | err _ _ _ => rw [htt] at p'; exact p'.elim
        | bad => rw [htt] at p'; exact p'.elim
        | ok r1 =>
          rw [htt] at p'
          intro σ3 _ ok3
          refine ⟨S2, H0, S2, r1, ok3.rebase, ?_⟩
          dsimp only at p'
          have fin : ∀ σ4 S4 H4 r4, EnvOk c S2 H0 G S4 H4 σ4 r4 → PostS c S0 H0 L G (loopF t F (ds.drop (i + 1)) r4) E → ∃ S' r', Ex S1 S' ∧ EnvOk c S0 H0 G S' H4 σ4 r' ∧ PostS c S0 H0 L G (loopF t F (ds.drop (i + 1)) r') E := fun σ4 S4 H4 r4 e4 p4 =>
            ⟨S4, r4, (e1.trans fw.s).trans e4.fwd.s, e4.unbase ok3.fwd, p4⟩
          cases hF : F r1 with
          | nx r2 => rw [hF] at p'; exact fun σ4 S4 H4 e4 => fin σ4 S4 H4 r2 e4 p'
          | ct r2 => rw [hF] at p'; exact fun σ4 S4 H4 e4 => fin σ4 S4 H4 r2 e4 p'
          | bk r2 => rw [hF] at p'; exact fun σ4 S4 H4 e4 => p' σ4 S4 H4 (e4.unbase ok3.fwd)
          | rt d => rw [hF] at p'; exact PostS.rebase (c := c) (o := .rt d) (E := E) ok3.fwd p'
          | er r2 n ns vs => rw [hF] at p'; exact PostS.rebase (c := c) (o := .er r2 n ns vs) (E := E) ok3.fwd p'
          | bad => rw [hF] at p'; exact p'.elim
      · rintro σ' H' ⟨S', r', e1, ok', p'⟩
        rw [List.drop_length] at p'
        exact p' σ' S' H' ok'
end
end Dx
end S_DxE
section S_DxF
set_option Elab.async false
set_option linter.all false
set_option maxRecDepth 100000
set_option maxHeartbeats 2000000
namespace L2N
open PySem PySem.Spec PyProof.Rows L2
theorem passLN {X : Cx} : Passes (L2N.CX X.prog X.w) X E0 := by
  rintro _ _ _ _ _ _ _ ⟨_, _, _, _, _, _, _, _, _, _, _, _, z⟩
  exact z.elim
theorem _root_.L2.Fun.okN {P : Program} {w : World} {K : PySem.W.Frag} {mg : Str → Option Value} {base : Heap} {k : Nat} {f : Addr} {x qual : Str} {st : Stmt} {fd : FuncData} {N ps : List Str} {sp : Sp} (F : Fun K x qual st f fd) (S : FnScope N ps (defScope st))
    (len : ∀ vs H Q E, sp vs H Q E → vs.length = ps.length)
    (hb : ∀ (cdv : Value) (A : Around) (outer : List Env) (s : Shared) (H : Hp) (vs : List V) (Q : VK) (E : XK), Room k (A.deeper (envOfC qual (defScope st) s.heap.objs.size f cdv)) → sp vs H Q E →
      ∃ t, PSs (cxOf (L2N.CX P w) P w K mg base N qual (defScope st) f cdv A outer s H E) (defBody st) t ∧ t { nx := fun _ H' => Q .non H', rt := Q } (start N vs) H) :
    FnOk P w K mg base (L2N.CX P w) (k + 1) f fd ps sp := match F.ex with
  | ⟨_, _, _, _, _, _, cdv, _, _, h, lk, hcd⟩ => by
    subst h
    exact fn_of lk hcd S len fun A outer s H vs Q E hr hsp => hb cdv A outer s H vs Q E hr hsp
end L2N
namespace Dx
open PySem L2
def wipeR (r : Rho) : List Nat → Rho
  | [] => r
  | v :: vs => (wipeR r vs).set v none
theorem wipeR_len (r : Rho) : ∀ vs : List Nat, (wipeR r vs).length = r.length
  | [] => rfl
  | v :: vs => by show ((wipeR r vs).set v none).length = _; rw [List.length_set, wipeR_len r vs]
theorem wipeR_some {r : Rho} {i : Nat} {d : D} : ∀ {vs : List Nat}, (wipeR r vs)[i]? = some (some d) → r[i]? = some (some d) ∧ i ∉ vs
  | [], h => ⟨h, by simp⟩
  | v :: vs, h => by
    rcases set_some (l := wipeR r vs) h with ⟨_, e, _⟩ | ⟨ne, h⟩
    · cases e
    · obtain ⟨h1, h2⟩ := wipeR_some h
      exact ⟨h1, by simp [Ne.symm ne, h2]⟩
/-- within a comprehension nothing is raised -/
abbrev Cf.calm (c : Cf) : Cf := ⟨c.K, c.cm, fun _ _ _ _ => False, none, c.rm, c.tb⟩
section
variable {X : Cx} {c : Cf} {L G G' : List Ow} {σ : St} {S0 H0 S H : Hp} {r : Rho}
theorem EnvOk.wiped (e : EnvOk c S0 H0 G S H σ r) (vs : List Nat) : EnvOk c.calm S0 H0 G S H (wipe σ vs) (wipeR r vs) := by
  refine ⟨e.fwd, by rw [wipe_length, wipeR_len, e.len], fun i d h => ?_, fun i j d d' p hi hj ki kj si sj => ?_, let ⟨A, hA⟩ := e.sto; ⟨A, hA.sub (fun a ha => (hA.out a ha).1) (fun _ _ => rfl) Ex.refl (fun i d p hi ki si => hA.own i d p (wipeR_some hi).1 ki (wipe_some si).1) fun i d ki hi => ⟨rfl, (wipeR_some hi).1, by rw [wipe_get, if_neg (wipeR_some hi).2]⟩⟩⟩
  · obtain ⟨h1, h2⟩ := wipeR_some h
    obtain ⟨v, h3, h4⟩ := e.slot i d h1
    exact ⟨v, by rw [wipe_get, if_neg h2]; exact h3, h4⟩
  · exact e.sep i j d d' p (wipeR_some hi).1 (wipeR_some hj).1 ki kj (wipe_some si).1 (wipe_some sj).1
theorem Fwd.put {S' H' : Hp} {p : Addr} {o : HO} (f : Fwd S H S' H') (n : H p = none) (ns : S' p = none) (tk : Tk H' (upd H' p o)) : Fwd S H S' (upd H' p o) := ⟨f.s, f.h.put n, f.sub.put ns, f.new, f.tb.trans tk⟩
def lcLoop (t : D → Rho → Res Rho) (tt : Rho → Res Bool) (fe : Rho → Res D) (rw : Rho) : List D → Res (List D)
  | [] => .ok []
  | d :: ds => match t d rw with
    | .ok r1 => match tt r1 with
      | .ok true => match fe r1 with
        | .ok x => match lcLoop t tt fe rw ds with
          | .ok xs => .ok (x :: xs)
          | _ => .bad
        | _ => .bad
      | .ok false => lcLoop t tt fe rw ds
      | _ => .bad
    | _ => .bad
noncomputable def dLc (its : Rho → Res (List D)) (t : D → Rho → Res Rho) (tt : Rho → Res Bool) (fe : Rho → Res D) (vs : List Nat) : Rho → Res D := fun r => (its r).bind fun ds => guard (ds.length ≤ sizeLine) (match lcLoop t tt fe (wipeR r vs) ds with
  | .ok xs => .ok (.lst xs)
  | _ => .bad)
def dYes : Rho → Res Bool := fun _ => .ok true
/-- what is walked, as long as nothing that is there changes -/
def iDl (c : Cf) (G : List Ow) (f : Rho → Res (List D)) : TI := fun σ H R => ∃ S0 H0 S r, EnvOk c S0 H0 G S H σ r ∧ PostG c σ S H (f r) fun ds S' H' => ∀ J, Gives c H' S' J ds → R J H'
theorem pi_l {tg it : Expr} {f : Rho → Res (List D)} (h : PI X tg it (iD c G f)) : PI X tg it (iDl c G f) := pi_imp h fun σ H R ⟨S0, H0, S, r, ok, p⟩ => ⟨S0, H0, S, r, ok, p.imp fun ds S' H' fw hk J gv => hk J (let ⟨Gd, Y, h1, h2, h3⟩ := gv; ⟨Gd, Y, h1, fun S'' H'' e1 e2 e3 => h2 S'' H'' e1 e2 ((ok.fwd.h.trans fw.h).trans e3), h3⟩)⟩
theorem lc_rd {its : Rho → Res (List D)} {t : D → Rho → Res Rho} {tt : Rho → Res Bool} {fe : Rho → Res D} {vs : List Nat} : ∀ σ H Q, tO c G (dLc its t tt fe vs) σ H Q →
    tLc (iDl c G its) (gD c.calm G G' vs t) (tT c.calm G' tt) (tV c.calm G' fe) vs σ H Q := fun σ H Q ⟨S0, H0, S, r, ok, p⟩ => by
  refine ⟨S0, H0, S, r, ok, p.unbind.imp fun ds S1 H1 w1 p1 J gv Dl hD => ?_⟩
  obtain ⟨hl, p1⟩ := p1.gd
  obtain ⟨Gd, Y, wk, hG, hY⟩ := gv
  have ok1 := ok.go w1
  split at p1
  · rename_i res hres
    have okw := ok1.wiped vs
    have nS : S1 Dl = none := ok1.ex.nn hD
    refine lc_it wk (fun i H' => ∃ S' acc accD rest, Fwd S1 H1 S' H' ∧ S' Dl = none ∧ H' Dl = some (.lst acc) ∧ RpA c.K c.cm S' acc accD ∧ lcLoop t tt fe (wipeR r vs) (ds.drop i) = .ok rest ∧ accD ++ rest = res ∧ accD.length ≤ i)
      ⟨S1, [], [], res, Fwd.heap ok1.ex hD, nS, upd_same, .nil, by rw [List.drop_zero]; exact hres, rfl, Nat.le_refl _⟩ ?_ ?_ ?_
    · rintro i H' _ ⟨S', acc, accD, rest, fw, _⟩
      exact hG S' H' fw.s fw.sub fw.h
    · rintro i x H' H2 hi ⟨S', acc, accD, rest, fw, n1, h1, r1, hr, ha, hn⟩ y
      obtain ⟨S2, d, fw2, hd, hx⟩ := hY i S' H' x H2 hi fw.s fw.sub y
      have hdrop : ds.drop i = d :: ds.drop (i + 1) := by
        rw [List.drop_eq_getElem_cons hi]
        rw [List.getElem?_eq_getElem hi] at hd
        cases hd; rfl
      rw [hdrop] at hr
      unfold lcLoop at hr
      refine ⟨S0, H0, S2, wipeR r vs, d, okw.go (fw.trans fw2), hx, ?_⟩
      cases ht : t d (wipeR r vs) with
      | err _ _ _ => rw [ht] at hr; cases hr
      | bad => rw [ht] at hr; cases hr
      | ok r2 =>
        rw [ht] at hr
        dsimp only at hr
        intro σ3 z3 ok3
        have hz : L2.wipe (L2.wipe σ vs) vs = L2.wipe σ vs := by
          apply List.ext_getElem?
          intro k
          rw [wipe_get, wipe_get]
          split
          · cases σ[k]? <;> rfl
          · rfl
        have keepN : ∀ S4 H4, Fwd S' H' S4 H4 → S4 Dl = none := fun S4 H4 f4 => by
          cases q : S4 Dl with
          | none => rfl
          | some u => obtain ⟨_, z⟩ := (f4.new Dl u q n1).not h1; cases z
        refine ⟨z3.trans hz, S0, H0, S2, r2, ok3, ?_⟩
        cases htt : tt r2 with
        | err _ _ _ => rw [htt] at hr; cases hr
        | bad => rw [htt] at hr; cases hr
        | ok b =>
          rw [htt] at hr
          intro S4 H4 w4 b' hb
          cases hb
          have f4 := fw2.trans w4
          cases b with
          | false =>
            dsimp only at hr
            rw [if_neg (by decide)]
            exact ⟨S4, acc, accD, rest, fw.trans f4, keepN S4 H4 f4, f4.h _ _ h1, r1.mono f4.s, hr, ha, Nat.le_succ_of_le hn⟩
          | true =>
            dsimp only at hr
            rw [if_pos rfl]
            refine ⟨S0, H0, S4, r2, ok3.go w4, ?_⟩
            cases hfe : fe r2 with
            | err _ _ _ => rw [hfe] at hr; cases hr
            | bad => rw [hfe] at hr; cases hr
            | ok x2 =>
              rw [hfe] at hr
              dsimp only at hr
              cases hlc : lcLoop t tt fe (wipeR r vs) (ds.drop (i + 1)) with
              | err _ _ _ => rw [hlc] at hr; cases hr
              | bad => rw [hlc] at hr; cases hr
              | ok xs2 =>
                rw [hlc] at hr
                cases hr
                intro S5 H5 w5 y5 hy5
                have f5 := f4.trans w5
                refine ⟨acc, f5.h _ _ h1, ?_, S5, acc ++ [y5], accD ++ [x2], xs2, (fw.trans f5).put hD (keepN S5 H5 f5) (Tk.at (f5.h _ _ h1) .lst), keepN S5 H5 f5, upd_same, (r1.mono f5.s).app (.one hy5), rfl, ?_, ?_⟩
                · rw [r1.length]; omega
                · rw [← ha, List.append_assoc]; rfl
                · simp; omega
    · rintro H' ⟨S', acc, accD, rest, fw, n1, h1, r1, hr, ha, hn⟩
      rw [List.drop_length] at hr
      cases hr
      rw [List.append_nil] at ha
      subst ha
      exact p1 S' H' fw _ ⟨Dl, .lst acc, rfl, w1.h.nn hD, n1, h1, .lst r1⟩
  · exact p1.elim
theorem de_lc {elt tg iter : Expr} {ifs : List Expr} {scope : Scope} {own : List (Str × Nat)} {pos : Pos} {its : Rho → Res (List D)} {t : D → Rho → Res Rho} {tt : Rho → Res Bool} {fe : Rho → Res D} (hc : X.calm = true) (hN : X.N.Nodup) (hi : PI X tg iter (iD c G its)) (ok : BlkOk X.N X.env.scope scope own)
    (hg : ∀ (s : Shared) (H : Hp) (C : Addr) (cl : List (Str × Addr)) (fp : List Addr), PG (X.blk s H scope (compEnvC scope cl C X.env) fp) tg (gD c.calm G G' (own.map (·.2)) t)) (ht : ∀ (s : Shared) (H : Hp) (C : Addr) (cl : List (Str × Addr)) (fp : List Addr), PTs (X.blk s H scope (compEnvC scope cl C X.env) fp) ifs (tT c.calm G' tt))
    (he : ∀ (s : Shared) (H : Hp) (C : Addr) (cl : List (Str × Addr)) (fp : List Addr), PE (X.blk s H scope (compEnvC scope cl C X.env) fp) elt (tV c.calm G' fe)) (hs : ∀ x, foldedSetIterable iter X.env x = pure x := by intro _; rfl) :
    PE X (.ListComp elt [⟨tg, iter, ifs, 0⟩] scope pos) (tO c G (dLc its t tt fe (own.map (·.2)))) := pe_imp (pe_lc hc hN (pi_l hi) ok hg ht he hs) lc_rd
theorem dt_nil : PTs X [] (tT c G dYes) := ⟨fun pins s σ H Q I ⟨S0, H0, S, r, ok, p⟩ => pts_nil.run pins s σ H Q I (p.go ok.ex _ rfl)⟩
theorem dt_one {cnd : Expr} {tt : Rho → Res Bool} (h : PT X cnd (tT c G tt)) : PTs X [cnd] (tT c G tt) := pts_one h
end
/-- the mode of its result: own, or a value -/
def mR (c : Cf) (rm : Bool) : Md V D := if rm then mO c else mV c
instance {c : Cf} {rm : Bool} : Anti (mR c rm) := by
  cases rm with
  | true => exact (inferInstance : Anti (mO c))
  | false => exact (inferInstance : Anti (mV c))
/-- F by data; ms the arguments' modes; rm whether the result is a new object that nothing else holds -/
def spD (K : PySem.W.Frag) (cm : CM) (ms : List Bool) (rm : Bool) (F : List D → Res D) : Sp := fun vs H Q E => ∃ S ds, Ex S H ∧ RpM ⟨K, cm, fun _ _ _ _ => False, none, rm, fun _ _ => False⟩ S H ms vs ds ∧
  PostG ⟨K, cm, fun cls d _ H => E cls d H, none, rm, fun _ _ => False⟩ [] S H (F ds) fun a S' H' => ∀ b, mR ⟨K, cm, fun _ _ _ _ => False, none, rm, fun _ _ => False⟩ rm H S' H' b a → Q b H'
section
variable {X : Cx} {c : Cf} {L G G' : List Ow} {k : Nat} {f : Addr} {fd : FuncData} {ps : List Str} {x : Str} {p pos : Pos} {e : Expr} {es : List Expr} {fs : Rho → Res (List D)} {ms : List Bool} {rm : Bool} {F : List D → Res D}
theorem RpM.cf {c c' : Cf} {S H : Hp} (hK : c.K = c'.K) (hm : c.cm = c'.cm) : ∀ {ms : List Bool} {vs : List V} {ds : List D}, RpM c S H ms vs ds → RpM c' S H ms vs ds
  | [], [], [], _ => trivial
  | true :: ms, v :: vs, d :: ds, h => ⟨by rw [← hK, ← hm]; exact h.1, RpM.cf hK hm h.2⟩
  | false :: ms, v :: vs, d :: ds, h => ⟨by rw [← hK, ← hm]; exact h.1, RpM.cf hK hm h.2⟩
  | [], _ :: _, _, h => h.elim
  | [], [], _ :: _, h => h.elim
  | true :: _, [], _, h => h.elim
  | true :: _, _ :: _, [], h => h.elim
  | false :: _, [], _, h => h.elim
  | false :: _, _ :: _, [], h => h.elim
theorem call_rd {E : XK} {σ : St} {S H : Hp} {vs : List V} {ds : List D} {Q : VK} (hE : ∀ cls d H, c.W cls d σ H → E cls d H) (ex : Ex S H) (m : RpM c S H ms vs ds)
    (q : PostG c σ S H (F ds) fun a S' H' => ∀ b, mR c rm H S' H' b a → Q b H') : spD c.K c.cm ms rm F vs H Q E := by
  refine ⟨S, ds, ex, RpM.cf (c := c) (c' := ⟨c.K, c.cm, fun _ _ _ _ => False, none, rm, fun _ _ => False⟩) rfl rfl m, ?_⟩
  cases hF : F ds with
  | ok a =>
    rw [hF] at q
    intro S' H' w b hb
    refine q S' H' w b ?_
    cases rm with
    | true => exact hb
    | false => exact hb
  | err n ns vs => rw [hF] at q; exact fun C dd S' H' fs h1 w h2 h3 h4 => hE _ _ _ (q C dd S' H' fs h1 w h2 h3 h4)
  | bad => rw [hF] at q; exact q.elim
/-- f(e, ..), f a def of the text -/
theorem de_call (F1 : FnOk X.prog X.w X.K X.mg X.base (L2N.CX X.prog X.w) k f fd ps (spD c.K c.cm ms rm F)) (tk : L2N.Takes X c.W) (hr : Room k X.A) (hg : Gl X x) (hm : X.mg x = some (.ref f)) (hk : PySem.W.keepIn X.K (.ref f) = true) (hb : Binds X.K fd ps [])
    (ha : PA X (e :: es) (tM c G ms fs)) (hdb : (x == ("__debug__" : Str)) = false := by decide) (he : starEach (e :: es) X.env = (false, eval e X.env) :: starEach es X.env := by rfl) (hpl : (backTo pos (starEach es X.env)).any (·.1) = false := by rfl) :
    PE X (.Call (.Name x p) (e :: es) [] pos) (rd c G (dCall F fs) (mR c rm)) :=
  pe_imp (pe_callSD (E := fun σ cls d H => c.W cls d σ H) F1 hr hg hm hk hb .nil (fun σ => L2N.passAt tk σ) ha hdb he hpl) fun σ H Q ⟨S0, H0, S, r, ok, q⟩ => rd_seq ok q fun ds vs S1 H1 w1 o1 m1 p1 => by
    rw [List.append_nil]
    exact call_rd (fun _ _ _ h => h) o1.ex m1 (p1.anti w1.h)
theorem de_callV (F1 : FnOk X.prog X.w X.K X.mg X.base (L2N.CX X.prog X.w) k f fd ps (spD c.K c.cm ms false F)) (tk : L2N.Takes X c.W) (hr : Room k X.A) (hg : Gl X x) (hm : X.mg x = some (.ref f)) (hk : PySem.W.keepIn X.K (.ref f) = true) (hb : Binds X.K fd ps [])
    (ha : PA X (e :: es) (tM c G ms fs)) (hdb : (x == ("__debug__" : Str)) = false := by decide) (he : starEach (e :: es) X.env = (false, eval e X.env) :: starEach es X.env := by rfl) (hpl : (backTo pos (starEach es X.env)).any (·.1) = false := by rfl) :
    PE X (.Call (.Name x p) (e :: es) [] pos) (tV c G (dCall F fs)) := de_call F1 tk hr hg hm hk hb ha hdb he hpl
def startR (n : Nat) (ds : List D) : Rho := ds.map some ++ List.replicate (n - ds.length) none
def G0 (ms : List Bool) (n : Nat) : List Ow := ms.map (fun m => if m then .b else .v) ++ List.replicate (n - ms.length) .v
def runF (n : Nat) (rm : Bool) (Fb : Rho → SR) (ds : List D) : Res D := match Fb (startR n ds) with
  | .rt d => .ok d
  | .nx _ => if rm then .bad else .ok .non
  | .er _ n ns vs => .err n ns vs
  | _ => .bad
theorem RpM.get {S H : Hp} : ∀ {ms : List Bool} {vs : List V} {ds : List D} {i : Nat} {d : D}, RpM c S H ms vs ds → ds[i]? = some d → ∃ v m, vs[i]? = some v ∧ ms[i]? = some m ∧ SlotOk c H S H (if m then .b else .v) v d
  | [], [], [], _, _, _, h => by simp at h
  | true :: ms, v :: vs, d :: ds, 0, e, h, q => by simp at q; subst q; exact ⟨v, true, by simp, by simp, h.1⟩
  | false :: ms, v :: vs, d :: ds, 0, e, h, q => by simp at q; subst q; exact ⟨v, false, by simp, by simp, h.1⟩
  | true :: ms, v :: vs, d :: ds, i + 1, e, h, q => by
    obtain ⟨v, m, h1, h2, h3⟩ := RpM.get (i := i) h.2 (by simpa using q)
    exact ⟨v, m, by simpa using h1, by simpa using h2, h3⟩
  | false :: ms, v :: vs, d :: ds, i + 1, e, h, q => by
    obtain ⟨v, m, h1, h2, h3⟩ := RpM.get (i := i) h.2 (by simpa using q)
    exact ⟨v, m, by simpa using h1, by simpa using h2, h3⟩
  | [], _ :: _, _, _, _, h, _ => h.elim
  | [], [], _ :: _, _, _, h, _ => h.elim
  | true :: _, [], _, _, _, h, _ => h.elim
  | true :: _, _ :: _, [], _, _, h, _ => h.elim
  | false :: _, [], _, _, _, h, _ => h.elim
  | false :: _, _ :: _, [], _, _, h, _ => h.elim
theorem RpM.len {S H : Hp} : ∀ {ms : List Bool} {vs : List V} {ds : List D}, RpM c S H ms vs ds → vs.length = ms.length ∧ ds.length = ms.length
  | [], [], [], _ => ⟨rfl, rfl⟩
  | true :: ms, v :: vs, d :: ds, h => by have := RpM.len h.2; simp [this.1, this.2]
  | false :: ms, v :: vs, d :: ds, h => by have := RpM.len h.2; simp [this.1, this.2]
  | [], _ :: _, _, h => h.elim
  | [], [], _ :: _, h => h.elim
  | true :: _, [], _, h => h.elim
  | true :: _, _ :: _, [], h => h.elim
  | false :: _, [], _, h => h.elim
  | false :: _, _ :: _, [], h => h.elim
theorem kd_G0 {ms : List Bool} {n i : Nat} : ¬ isO (kd (G0 ms n) i) := by
  unfold kd G0
  rw [List.getD_eq_getElem?_getD, List.getElem?_append]
  split
  · rw [List.getElem?_map]
    cases ms[i]? with
    | none => intro h; cases h
    | some m => cases m <;> (intro h; cases h)
  · rw [List.getElem?_replicate]
    split <;> (intro h; cases h)
theorem kd_G0_sw {ms : List Bool} {n i : Nat} : (∀ P, kd (G0 ms n) i ≠ .s P) ∧ kd (G0 ms n) i ≠ .w := by
  unfold kd G0
  rw [List.getD_eq_getElem?_getD, List.getElem?_append]
  split
  · rw [List.getElem?_map]
    cases ms[i]? with
    | none => exact ⟨fun _ h => (by cases h), fun h => (by cases h)⟩
    | some m => cases m <;> exact ⟨fun _ h => (by cases h), fun h => (by cases h)⟩
  · rw [List.getElem?_replicate]
    split <;> exact ⟨fun _ h => (by cases h), fun h => (by cases h)⟩
theorem kd_G0_at {ms : List Bool} {n i : Nat} {m : Bool} (h : ms[i]? = some m) : kd (G0 ms n) i = if m then .b else .v := by
  unfold kd G0
  have hl : i < ms.length := (List.getElem?_eq_some_iff.mp h).1
  rw [List.getD_eq_getElem?_getD, List.getElem?_append, if_pos (by simpa using hl), List.getElem?_map, h]
  rfl
theorem startR_some {n i : Nat} {ds : List D} {d : D} (h : (startR n ds)[i]? = some (some d)) : ds[i]? = some d := by
  unfold startR at h
  rw [List.getElem?_append] at h
  split at h
  · rw [List.getElem?_map] at h
    cases q : ds[i]? with
    | none => rw [q] at h; cases h
    | some e => rw [q] at h; cases h; rfl
  · rw [List.getElem?_replicate] at h
    split at h <;> cases h
theorem env_start {N : List Str} {S H : Hp} {vs : List V} {ds : List D} (ex : Ex S H) (m : RpM c S H ms vs ds) (hn : ms.length ≤ N.length) (ht : ∀ P q, c.tb P q → LamX.TabS H P q := by intro _ _ z; exact False.elim z) : EnvOk c S H (G0 ms N.length) S H (L2.start N vs) (startR N.length ds) := by
  have hl := m.len
  refine ⟨Fwd.refl ex, by unfold L2.start startR; simp [hl.1, hl.2], fun i d h => ?_, fun i j d e p _ _ k _ _ _ => absurd k kd_G0, ⟨[], .nil (fun _ _ _ => kd_G0_sw) ht⟩⟩
  have hd := startR_some h
  obtain ⟨v, mm, h1, h2, h3⟩ := m.get hd
  refine ⟨v, ?_, by rw [kd_G0_at h2]; exact h3⟩
  unfold L2.start
  have hlt : i < vs.length := (List.getElem?_eq_some_iff.mp h1).1
  rw [List.getElem?_append, if_pos (by simpa using hlt), List.getElem?_map, h1]
  rfl
end
section
variable {P : Program} {w : World} {K : PySem.W.Frag} {mg : Str → Option Value} {base : Heap} {cm : CM}
abbrev cfE (K : PySem.W.Frag) (cm : CM) (rm : Bool) (E : XK) : Cf := ⟨K, cm, fun cls d _ H => E cls d H, none, rm, fun _ _ => False⟩
/-- THE RULE for a def: its body by data -/
theorem dok {x qual : Str} {st : Stmt} {f : Addr} {fd : FuncData} {N ps : List Str} {k : Nat} {ms : List Bool} {rm : Bool} {G' : List Ow} {Fb : Rho → SR} (F : Fun K x qual st f fd) (S : FnScope N ps (defScope st)) (hm : ms.length = ps.length) (hn : ps.length ≤ N.length)
    (hb : ∀ (cdv : Value) (A : Around) (outer : List Env) (s : Shared) (H : Hp) (E : XK), Room k (A.deeper (PyProof.Rows.envOfC qual (defScope st) s.heap.objs.size f cdv)) →
      PSs (cxOf (L2N.CX P w) P w K mg base N qual (defScope st) f cdv A outer s H E) (defBody st) (sD (cfE K cm rm E) [] (G0 ms N.length) G' Fb)) :
    FnOk P w K mg base (L2N.CX P w) (k + 1) f fd ps (spD K cm ms rm (runF N.length rm Fb)) := by
  refine F.okN S (fun vs H Q E h => ?_) (fun cdv A outer s H vs Q E hr h => ?_)
  · obtain ⟨S, ds, _, m, _⟩ := h
    rw [m.len.1, hm]
  · obtain ⟨S, ds, ex, m, q⟩ := h
    refine ⟨_, hb cdv A outer s H E hr, S, H, S, startR N.length ds, env_start ex (RpM.cf (c := ⟨K, cm, fun _ _ _ _ => False, none, rm, fun _ _ => False⟩) (c' := cfE K cm rm E) rfl rfl m) (by omega), ?_⟩
    unfold runF at q
    cases hF : Fb (startR N.length ds) with
    | rt d =>
      rw [hF] at q
      show PostS _ _ _ _ _ (.rt d) _
      unfold PostS
      dsimp only
      cases rm with
      | true => exact fun p ho S' H' fw n ns hp hh => q S' H' fw _ ⟨p, ho, rfl, n, ns, hp, hh⟩
      | false => exact fun v S' H' fw hv => q S' H' fw v hv
    | nx r =>
      rw [hF] at q
      cases rm with
      | true => exact q.elim
      | false => exact fun σ' S' H' ok => q S' H' ok.fwd _ Rp.non
    | er r n ns vs =>
      rw [hF] at q
      exact fun C dd σ' S' H' fs h1 fw _ h2 h3 h4 => q C dd S' H' fs h1 fw h2 h3 h4
    | bk r => rw [hF] at q; exact q.elim
    | ct r => rw [hF] at q; exact q.elim
    | bad => rw [hF] at q; exact q.elim
end
end Dx
end S_DxF
section S_DxG
set_option Elab.async false
set_option linter.all false
set_option maxRecDepth 100000
set_option maxHeartbeats 2000000
namespace L2N
open PySem PySem.Spec PyProof.Rows L2
/-- C(e, ..), C an own exception class; the made object's context is None -/
theorem pmk_oexN {X : Cx} {CX : CXT} {e : Expr} {es : List Expr} {ta : TA} {p pos : Pos} {x : Str} {C fI : Addr} {k : Nat} {fd : FuncData} {ps : List Str} {sp : Sp} {ds : List Value} {dvs : List V} (T : OexC X.K C)
    (iC : PySem.W.findIn X.K (.ref C) "__init__" = some (some (.ref fI))) (tI : PySem.W.typeIn X.K (.ref fI) = some (.type "function")) (F1 : FnOk X.prog X.w X.K X.mg X.base CX k fI fd ps sp) (hr : Room (k + 1) X.A)
    (hb : Binds X.K fd ps ds) (hd : Vals dvs ds) (hx : Passes CX X (fun _ _ _ => False)) (hg : Gl X x) (hm : X.mg x = some (.ref C)) (ha : PA X (e :: es) ta) (hdb : (x == ("__debug__" : Str)) = false := by decide)
    (he : starEach (e :: es) X.env = (false, eval e X.env) :: starEach es X.env := by rfl) (hpl : (backTo pos (starEach es X.env)).any (·.1) = false := by rfl) :
    PMk X (.Call (.Name x p) (e :: es) [] pos) (tMkO C sp dvs ta) := by
  intro pins s σ H Q I h
  obtain ⟨nm, q, N, bs, bm, sn, sub, ab, col, dd, k0, k1, k2, k3, k5, hC, hbm⟩ := T.cls
  refine wpAny_Call_Name_kw (ld_glob I hg hm (PySem.W.callWith_K (h₀ := X.base) I.ok.mod.kin T.kC (thn (ha.run pos pins s σ H _ I h) ?_) he hpl) hdb)
  rintro us ⟨hp, g, dr, tk, os⟩ ⟨vs, H1, I1, r1, hz, q1⟩
  refine ⟨I1.kIn, ?_⟩
  show wpAny _ _ (call (.ref C) us) _ _ _
  have hsz : hp.objs.size ≤ hp.objs.size + 1 := Nat.le_succ _
  have hq := q1 (hp.objs.size + 1) (I1.hok.fresh hsz)
  have kk : ∀ b o, hp.get? b = some o → ((hp.push (PySem.W.kdv_tup us)).push (PySem.HandSPX.excO C hp.objs.size)).get? b = some o := fun b o z =>
    Heap.get?_push_of_some _ (Heap.get?_push_of_some _ z)
  have I2 : Inv X pins σ (upd H1 (hp.objs.size + 1) (exo (hp.objs.size + 1) C none)) ⟨(hp.push (PySem.W.kdv_tup us)).push (PySem.HandSPX.excO C hp.objs.size), g, dr, tk, os⟩ :=
    I1.laid (t' := tk) (a := hp.objs.size + 1) kk hsz (exo_ok (by heap_get))
  have r2 : Vals (V.ref (hp.objs.size + 1) :: (vs ++ dvs)) (Value.ref (hp.objs.size + 1) :: (us ++ ds)) := .cons rfl (r1.append hd)
  have hl : (Value.ref (hp.objs.size + 1) :: us ++ ds).length = ps.length := (r2.length.symm.trans (F1.len _ _ _ _ hq))
  have hus : us.length ≤ sizeLine := by
    have z := Paired.length r1
    rw [sizeLine_eq]; omega
  refine wpAny_call (PySem.HandSPX.call_own F.excBase_ValueError (fun Y => PySem.HandSPX.refsVE_contains Y bm hbm) (I1.kIn _ _ hC) (PySem.W.looks_findIn I1.kIn iC) (fun self => PySem.W.bind_fn I1.kIn self tI) hus (codeAny_mono (F1.run _ X.stack _ _
    ⟨Value.ref (hp.objs.size + 1) :: us, []⟩ _ _ _ (fun _ _ _ => False) (hr.make C us []) (I2.env0.make C us []) (hb _ (Value.ref (hp.objs.size + 1) :: us) I2.kIn hl) r2 hq) fun r s' hq' => ?_))
  match r, hq' with
  | .error er, z => exact hx pins σ _ _ er s' I2 z
  | .ok (.ret u), z =>
    obtain ⟨h2, g2, d2, t2, os'⟩ := s'
    obtain ⟨v, H2, os2, bare2, un2, hok2, rv, rfl, d, fs, ea, ed, hd1, q2⟩ := z
    obtain ⟨t0, G, J, kG, ge, hoe, na⟩ := mk_end0 (d2 := d2) (t2 := t2) I1 hsz kk un2 hok2 os2 bare2 ea ed hd1
    exact ⟨rv, ⟨hp.objs.size + 1, _, _, ⟨G, g2, d2, t2, os'⟩, _, .ref C, some d, rfl, J, kG, ge, hoe, ⟨rfl, rfl, fun vs hv => by cases hv; rfl⟩, rfl, rfl, na, rfl, bare2, raises_own T.exC T.tyC, q2⟩⟩
  | .ok .next, z => exact z.elim
  | .ok .brk, z => exact z.elim
  | .ok .cont, z => exact z.elim
end L2N
namespace Dx
open PySem L2
section
variable {X : Cx} {c : Cf} {L G G' : List Ow}
def spX1 (K : PySem.W.Frag) (C : Addr) (f : Str) : Sp := fun vs H Q _ => ∃ (a : Addr) (w : V), vs = [.ref a, w] ∧ OexC K C ∧ PySem.W.findIn K (.ref C) f = some none ∧ H a = some (exo a C none) ∧
  ∀ d, H d = none → d ≠ a → Q .non (upd (upd H d (exd d [(f, w)])) a (exo a C (some d)))
theorem xinit1 {P : Program} {w : World} {K : PySem.W.Frag} {mg : Str → Option Value} {base : Heap} {qual : Str} {st : Stmt} {fI C : Addr} {fd : FuncData} {N ps : List Str} {fl : Str} (F : Fun K "__init__" qual st fI fd) (S : FnScope N ps (defScope st)) (hl : ps.length = 2) (hN : N.length = 2)
    (hb : ∀ (cdv : Value) (A : Around) (outer : List Env) (s : Shared) (H : Hp) (E : XK), PSs (cxOf (L2N.CX P w) P w K mg base N qual (defScope st) fI cdv A outer s H E) (defBody st) (tOst K fl (tVar 0) (tVar 1))) :
    FnOk P w K mg base (L2N.CX P w) 1 fI fd ps (spX1 K C fl) := by
  refine F.okN (k := 0) S (fun vs H Q E h => ?_) (fun cdv A outer s H vs Q E hr h => ?_)
  · obtain ⟨a, w, rfl, _⟩ := h; exact hl.symm
  · obtain ⟨a, w', rfl, T, hno, ha, q⟩ := h
    refine ⟨_, hb cdv A outer s H E, ?_⟩
    have e : L2.start N [.ref a, w'] = [some (.ref a), some w'] := by unfold L2.start; rw [hN]; rfl
    rw [e]
    exact ⟨w', rfl, .ref a, rfl, a, C, rfl, T, hno, .inl ⟨ha, q⟩⟩
def raiF (n : Str) (ns : List Str) (rev : Bool) (fs : Rho → Res (List D)) : Rho → SR := fun r => liftS r (fs r) fun ds => if ds.length = ns.length then .er r n ns (if rev then ds.reverse else ds) else .bad
variable {e e2 : Expr} {fs : Rho → Res (List D)} {x n : Str} {C fI : Addr} {fd : FuncData} {ps : List Str} {p p' pos : Pos} {fl gl : Str}
theorem heap_x1 {H1 : Hp} {a d C : Addr} {o1 o2 o3 o4 o : HO} (ha : H1 a = none) (hne : d ≠ a) : upd (del (upd (upd (upd H1 a o1) d o2) a o3) a) d o = upd H1 d o := by
  funext b
  by_cases hb : b = d
  · subst hb; rw [upd_same, upd_same]
  · rw [upd_ne hb, upd_ne hb]
    by_cases hba : b = a
    · subst hba; rw [del_same, ha]
    · rw [del_ne hba, upd_ne hba, upd_ne hb, upd_ne hba]
theorem ds_raise1 (hg : Gok c G) (hcn : c.cm n = some C) (hc : X.calm = true) (tk : L2N.Takes X c.W) (T : OexC X.K C) (iC : PySem.W.findIn X.K (.ref C) "__init__" = some (some (.ref fI))) (tI : PySem.W.typeIn X.K (.ref fI) = some (.type "function")) (hno : PySem.W.findIn X.K (.ref C) fl = some none)
    (F1 : FnOk X.prog X.w X.K X.mg X.base (L2N.CX X.prog X.w) 1 fI fd ps (spX1 X.K C fl)) (hr : Room 2 X.A) (hb : Binds X.K fd ps []) (hgx : Gl X x) (hm : X.mg x = some (.ref C)) (ha : PA X [e] (tAs c G fs))
    (hdb : (x == ("__debug__" : Str)) = false := by decide) (he : starEach [e] X.env = (false, eval e X.env) :: starEach [] X.env := by rfl) :
    PS X (.Raise (some (.Call (.Name x p) [e] [] p')) none pos) (sD c L G G' (raiF n [fl] false fs)) :=
  ps_imp (L2N.ps_raise hc tk (L2N.pmk_oexN T iC tI F1 hr hb .nil L2N.passLN hgx hm ha hdb he rfl)) fun E σ H ⟨S0, H0, S, r, ok, q⟩ => st_seq hg ok q fun ds vs S1 H1 w1 o1 m1 p1 => by
    obtain ⟨hl, p1⟩ := p1.ite
    match ds, vs, m1, hl with
    | [d1], [v1], .cons hv .nil, _ =>
      refine ⟨by show 1 ≤ 1000; decide, fun a na => ⟨a, v1, rfl, T, hno, upd_same, fun d hd hne => ⟨rfl, d, [(fl, v1)], upd_same, by rw [upd_ne hne, upd_same], by rw [upd_ne hne] at hd; exact hd, ?_⟩⟩⟩
      rw [upd_ne hne] at hd
      rw [heap_x1 (C := C) (o4 := .lst []) na hne]
      exact p1 C d σ (upd S1 d (.xd [(fl, v1)])) _ [(fl, v1)] hcn (o1.fwd.trans (Fwd.both o1.ex hd)) (fun g hgg => by rw [hg g hgg]; exact o1.go (Fwd.both o1.ex hd)) upd_same rfl (.cons (hv.mono (Ex.new (o1.ex.nn hd))) .nil)
def unsetS (i : Nat) : SR → SR
  | .nx r => .nx (r.set i none)
  | .bk r => .bk (r.set i none)
  | .ct r => .ct (r.set i none)
  | .er _ _ _ _ => .bad
  | o => o
def tryF (isM : Str → Option Bool) (i : Nat) (Fb Fs : Rho → SR) : Rho → SR := fun r => match Fb r with
  | .er r' n ns vs => match isM n with
    | some true => unsetS i (Fs (r'.set i (some (.obj n ns vs))))
    | some false => .er r' n ns vs
    | none => .bad
  | o => o
theorem EnvOk.unset {S0 H0 S H : Hp} {σ : St} {r : Rho} (e : EnvOk c S0 H0 G S H σ r) (i : Nat) : EnvOk c S0 H0 (G.set i .v) S H (σ.set i none) (r.set i none) := by
  refine ⟨e.fwd, by simp [e.len], fun j d h => ?_, fun j k d d' p hj hk kj kk sj sk => ?_, let ⟨A, hA⟩ := e.sto; ⟨A, hA.sub (fun a ha => (hA.out a ha).1) (fun _ _ => rfl) Ex.refl (fun j d p hj kj sj => ?_) fun j d kj hj => ?_⟩⟩
  · rcases set_some h with ⟨_, z, _⟩ | ⟨ne, h⟩
    · cases z
    · obtain ⟨v, h1, h2⟩ := e.slot j d h
      exact ⟨v, by rw [List.getElem?_set_ne ne]; exact h1, by rw [kd_set_ne ne]; exact h2⟩
  · rcases set_some hj with ⟨_, z, _⟩ | ⟨nj, hj⟩
    · cases z
    · rcases set_some hk with ⟨_, z, _⟩ | ⟨nk, hk⟩
      · cases z
      · rw [kd_set_ne nj] at kj
        rw [kd_set_ne nk] at kk
        rw [List.getElem?_set_ne nj] at sj
        rw [List.getElem?_set_ne nk] at sk
        exact e.sep j k d d' p hj hk kj kk sj sk
  · rcases set_some hj with ⟨_, z, _⟩ | ⟨nj, hj⟩
    · cases z
    · rw [kd_set_ne nj] at kj
      rw [List.getElem?_set_ne nj] at sj
      exact hA.own j d p hj kj sj
  · rcases set_some hj with ⟨_, z, _⟩ | ⟨nj, hj⟩
    · cases z
    · rw [kd_set_ne nj, List.getElem?_set_ne nj]
      exact ⟨rfl, hj, rfl⟩
/-- the slot of a caught exception -/
theorem EnvOk.setX {c' : Cf} {S0 H0 S H : Hp} {σ : St} {r : Rho} {a C dd : Addr} {n : Str} {ns : List Str} {vs : List D} {fs : List (Str × V)} (e : EnvOk c S0 H0 G S H σ r) (hK : c'.K = c.K) (hcm : c'.cm = c.cm) (i : Nat) (hi : i < G.length) (h1 : c.cm n = some C) (h2 : S dd = some (.xd fs)) (h3 : ns = fs.map (·.1)) (h4 : RpA c.K c.cm S (fs.map (·.2)) vs) (htb : c'.tb = c.tb := by rfl) :
    EnvOk c' S0 H0 (G.set i (.x a C dd)) S H (σ.set i (some (.ref a))) (r.set i (some (.obj n ns vs))) := by
  have sl : ∀ k v d, SlotOk c H0 S H k v d → SlotOk c' H0 S H k v d := fun k v d h => by
    cases k with
    | v => unfold SlotOk at h ⊢; rw [hK, hcm]; exact h
    | o => unfold SlotOk at h ⊢; rw [hK, hcm]; exact h
    | b => unfold SlotOk at h ⊢; rw [hK, hcm]; exact h
    | s P => exact h
    | w => exact h
    | x a C dd => unfold SlotOk at h ⊢; rw [hK, hcm]; exact h
    | i a => unfold SlotOk at h ⊢; rw [hK, hcm]; exact h
    | j a0 fs0 => unfold SlotOk at h ⊢; rw [hcm]; exact h
  have sto' : ∃ A, StoOk c'.K c'.cm c'.tb H0 (G.set i (.x a C dd)) S H (σ.set i (some (.ref a))) (r.set i (some (.obj n ns vs))) A := by
    obtain ⟨A, hA⟩ := e.sto
    rw [hK, hcm, htb]
    refine ⟨A, hA.sub (fun a ha => (hA.out a ha).1) (fun _ _ => rfl) Ex.refl (fun j d p hj kj sj => ?_) fun j d kj hj => ?_⟩
    · have nj : i ≠ j := fun z => by subst z; rw [kd_set_o hi] at kj; cases kj
      rw [List.getElem?_set_ne nj] at hj sj
      rw [kd_set_ne nj] at kj
      exact hA.own j d p hj kj sj
    · have nj : i ≠ j := fun z => by subst z; rw [kd_set_o hi] at kj; rcases kj with ⟨_, kj⟩ | kj <;> cases kj
      rw [List.getElem?_set_ne nj] at hj
      rw [kd_set_ne nj, List.getElem?_set_ne nj]
      exact ⟨rfl, hj, rfl⟩
  refine ⟨e.fwd, by simp [e.len], fun j d h => ?_, fun j k d d' p hj hk kj kk sj sk => ?_, sto'⟩
  · rcases set_some h with ⟨rfl, z, hl⟩ | ⟨ne, h⟩
    · cases z
      refine ⟨.ref a, by rw [List.getElem?_set_self (by rw [e.len]; exact hl)], ?_⟩
      rw [kd_set_o hi]
      exact ⟨rfl, n, ns, vs, fs, rfl, by rw [hcm]; exact h1, h2, h3, by rw [hK, hcm]; exact h4⟩
    · obtain ⟨v, q1, q2⟩ := e.slot j d h
      exact ⟨v, by rw [List.getElem?_set_ne ne]; exact q1, by rw [kd_set_ne ne]; exact sl _ _ _ q2⟩
  · have nj : i ≠ j := fun z => by subst z; rw [kd_set_o hi] at kj; cases kj
    have nk : i ≠ k := fun z => by subst z; rw [kd_set_o hi] at kk; cases kk
    rw [List.getElem?_set_ne nj] at hj sj
    rw [List.getElem?_set_ne nk] at hk sk
    rw [kd_set_ne nj] at kj
    rw [kd_set_ne nk] at kk
    exact e.sep j k d d' p hj hk kj kk sj sk
/-- the kinds told ahead; what they are is the same whatever the wishes -/
theorem EnvOk.cf {c' : Cf} {S0 H0 S H : Hp} {σ : St} {r : Rho} (e : EnvOk c S0 H0 G S H σ r) (hK : c'.K = c.K) (hcm : c'.cm = c.cm) (htb : c'.tb = c.tb := by rfl) : EnvOk c' S0 H0 G S H σ r := by
  refine ⟨e.fwd, e.len, fun j d h => ?_, e.sep, by rw [hK, hcm, htb]; exact e.sto⟩
  obtain ⟨v, q1, q2⟩ := e.slot j d h
  refine ⟨v, q1, ?_⟩
  cases kj : kd G j with
  | v => rw [kj] at q2; unfold SlotOk at q2 ⊢; rw [hK, hcm]; exact q2
  | o => rw [kj] at q2; unfold SlotOk at q2 ⊢; rw [hK, hcm]; exact q2
  | b => rw [kj] at q2; unfold SlotOk at q2 ⊢; rw [hK, hcm]; exact q2
  | s P => rw [kj] at q2; exact q2
  | w => rw [kj] at q2; exact q2
  | j a0 fs0 => rw [kj] at q2; unfold SlotOk at q2 ⊢; rw [hcm]; exact q2
  | x a C dd => rw [kj] at q2; unfold SlotOk at q2 ⊢; rw [hK, hcm]; exact q2
  | i a => rw [kj] at q2; unfold SlotOk at q2 ⊢; rw [hK, hcm]; exact q2
abbrev Cf.try (c : Cf) (W : WX) (G : List Ow) : Cf := ⟨c.K, c.cm, W, some G, c.rm, c.tb⟩
theorem ds_try {nm xn : Str} {cv : Value} {i : Nat} {body suite : List Stmt} {b0 : Stmt} {np p1 : Pos} {isM : Str → Option Bool} {Fb Fs : Rho → SR} {Gs : List Ow} (hge : Gok c G) (hs : X.stack = X.env :: X.outer) (hf : X.env.frame = some X.env.locals) (hN : X.N.Nodup) (hi : X.N[i]? = some nm) (hln : X.env.kindOf nm = some .local) (hc : Names X xn cv) (tk : L2N.Takes X c.W)
    (hG : i < G.length) (hM : ∀ n C b, c.cm n = some C → isM n = some b → PySem.W.exmOne X.K (.ref C) cv = some b)
    (hb : ∀ (W : WX) (pn : List (Addr × Obj)) (xe : Value → Shared → Prop), L2N.Takes (X.tr pn xe) W → PassesOwn (model X.prog X.w) X.A X.env xe → PSs (X.tr pn xe) body (sD (c.try W G) L G G' Fb))
    (hsu : ∀ (a C dd : Addr) (oe : Obj) (pn : List (Addr × Obj)), (∃ n, c.cm n = some C ∧ isM n = some true) → L2N.Zn (.ref C) (some dd) oe → (∃ vs, oe.data = .fields vs) → PSs (X.suite a ((a, oe) :: pn)) (b0 :: suite) (sD c.calm (L.set i (.x a C dd)) (G.set i (.x a C dd)) (Gs.set i (.x a C dd)) Fs))
    (hGs : Gs.set i .v = G') (hL : L.set i .v = L) :
    PS X (.Try body [.ExceptHandler (some (.Name xn np)) (some nm) (b0 :: suite) p1] [] [] pos) (sD c L G G' (tryF isM i Fb Fs)) := by
  refine ps_imp (L2N.ps_try_as (tb := fun W => sD (c.try W G) L G G' Fb) (ts := fun a cls d => fun E σ H => ∃ C dd, cls = .ref C ∧ d = some dd ∧ (∃ n, c.cm n = some C ∧ isM n = some true) ∧ sD c.calm (L.set i (.x a C dd)) (G.set i (.x a C dd)) (Gs.set i (.x a C dd)) Fs E σ H) hs hf hN hi hln hc tk hb ?_) ?_
  · intro a oe cls d pn hz hff
    refine ⟨fun pins s σ H E I ⟨C, dd, hC, hd, hin, q⟩ => ?_⟩
    subst hC hd
    exact (hsu a C dd oe pn hin hz hff).run pins s σ H E I q
  · rintro E σ H ⟨S0, H0, S, r, ok, p⟩
    refine ⟨S0, H0, S, r, ok.cf rfl rfl, ?_⟩
    unfold tryF at p
    cases hF : Fb r with
    | nx r' => rw [hF] at p; exact fun σ' S' H' e => p σ' S' H' (e.cf rfl rfl)
    | rt d => rw [hF] at p; exact p
    | bk r' => rw [hF] at p; exact fun σ' S' H' e => p σ' S' H' (e.cf rfl rfl)
    | ct r' => rw [hF] at p; exact fun σ' S' H' e => p σ' S' H' (e.cf rfl rfl)
    | bad => rw [hF] at p; exact p.elim
    | er r' n ns vs =>
      rw [hF] at p
      intro C dd σ' S' H' fs h1 fw h2 h3 h4 h5
      have e1 : EnvOk (c.try _ G) S0 H0 G S' H' σ' r' := h2 G rfl
      dsimp only at p
      cases hI : isM n with
      | none => rw [hI] at p; exact p.elim
      | some b =>
        rw [hI] at p
        refine ⟨b, hM n C b h1 hI, fun hb1 a ha => ?_, fun hb0 => ?_⟩
        · subst hb1
          refine ⟨C, dd, rfl, rfl, ⟨n, h1, hI⟩, S0, H0, S', _, e1.setX (c' := c.calm) (a := a) rfl rfl i hG h1 h3 h4 h5, ?_⟩
          have p : PostS c S0 H0 L G' (unsetS i (Fs (r'.set i (some (.obj n ns vs))))) E := p
          cases hS : Fs (r'.set i (some (.obj n ns vs))) with
          | nx r2 =>
            rw [hS] at p
            intro σ2 S2 H2 e2
            have := (EnvOk.cf (c' := c) e2 rfl rfl).unset i
            rw [List.set_set, hGs] at this
            exact p _ S2 H2 this
          | rt d => rw [hS] at p; exact p
          | bk r2 =>
            rw [hS] at p
            intro σ2 S2 H2 e2
            have := (EnvOk.cf (c' := c) e2 rfl rfl).unset i
            rw [List.set_set, hL] at this
            exact p _ S2 H2 this
          | ct r2 =>
            rw [hS] at p
            intro σ2 S2 H2 e2
            have := (EnvOk.cf (c' := c) e2 rfl rfl).unset i
            rw [List.set_set, hL] at this
            exact p _ S2 H2 this
          | er _ _ _ _ => rw [hS] at p; exact p.elim
          | bad => rw [hS] at p; exact p.elim
        · subst hb0
          exact p C dd σ' S' H' fs h1 fw (fun g hg => by rw [hge g hg]; exact EnvOk.cf (c' := c) e1 rfl rfl) h3 h4 h5
def lookF (ns : List Str) (vs : List D) (f : Str) : Option D := (ns.zip vs).lookup f
def dXf (i : Nat) (f : Str) : Rho → Res D := fun r => match r[i]? with
  | some (some (.obj _ ns vs)) => match lookF ns vs f with
    | some d => .ok d
    | none => .bad
  | _ => .bad
theorem look_rp {K : PySem.W.Frag} {cm : CM} {S : Hp} {f : Str} {d : D} : ∀ {fs : List (Str × V)} {vs : List D}, RpA K cm S (fs.map (·.2)) vs → lookF (fs.map (·.1)) vs f = some d → ∃ v, fs.lookup f = some v ∧ Rp K cm S v d
  | [], vs, h, q => by cases h; cases q
  | (g, u) :: fs, _, h, q => by
    cases h with | @cons _ _ d' ds hu hr =>
    unfold lookF at q
    rw [List.map_cons, List.zip_cons_cons, List.lookup_cons] at q
    rw [List.lookup_cons]
    by_cases hfg : (f == g) = true
    · rw [hfg] at q ⊢; cases q; exact ⟨u, rfl, hu⟩
    · have : (f == g) = false := by simpa using hfg
      rw [this] at q ⊢
      exact look_rp hr q
theorem de_xf {a C dd : Addr} {oe : Obj} {pn : List (Addr × Obj)} {i : Nat} {nm f : Str} {pn' : Pos} (T : XfC X.K C) (hno : PySem.W.findIn X.K (.ref C) f = some none) (k : kd G i = .x a C dd)
    (hz : L2N.Zn (.ref C) (some dd) oe) (hf : ∃ vs, oe.data = .fields vs) (he : PE (X.suite a ((a, oe) :: pn)) (.Name nm pn') (tVar i)) (hb : attributeBase (.Name nm pn') f X.env (eval (.Name nm pn') X.env) = eval (.Name nm pn') X.env := by rfl) :
    PE (X.suite a ((a, oe) :: pn)) (.Attribute (.Name nm pn') f pos) (tV c G (dXf i f)) := pe_imp (pe_xf T hno hz.zc hf he hb) fun σ H Q ⟨S0, H0, S, r, ok, p⟩ => by
  unfold dXf at p
  split at p
  · rename_i n ns vs hr
    obtain ⟨v, h1, h2⟩ := ok.slot i _ hr
    rw [k] at h2
    obtain ⟨rfl, n', ns', ds', fs, z1, z2, z3, z4, z5⟩ := h2
    cases z1
    split at p
    · rename_i d hd
      rw [z4] at hd
      obtain ⟨u, q1, q2⟩ := look_rp z5 hd
      exact ⟨.ref a, h1, rfl, rfl, dd, fs, u, rfl, ok.ex _ _ z3, q1, p.here ok.ex q2⟩
    · exact p.elim
  · exact p.elim
/-- isinstance(e, c), e the exception that the suite holds -/
def rIsX (K : PySem.W.Frag) (C a dd : Addr) : List V → Hp → VK → Prop := fun xs H Q => ∃ (c : V) (cv : Value) (b : Bool) (fs : List (Str × V)), xs = [.ref a, c] ∧ (∀ u, RelV c u → u = cv) ∧ H dd = some (.xd fs) ∧ PySem.W.kitOne K (.ref C) cv = some b ∧ Q (.bl b) H
theorem call_isX {a C dd : Addr} {oe : Obj} {pn : List (Addr × Obj)} (T : ExcC X.K C) (hz : L2N.Zn (.ref C) (some dd) oe) (hf : ∃ vs, oe.data = .fields vs) : CallR (X.suite a ((a, oe) :: pn)) (.builtin "isinstance") (rIsX X.K C a dd) := by
  intro pins s σ H xs us Q I r h
  obtain ⟨cc, cv, b, fs, rfl, hcv, hdd, hk, q⟩ := h
  match us, r with
  | [u1, u2], .cons rx (.cons rt .nil) =>
    cases rx
    have ec := hcv _ rt
    subst ec
    have hpin := (I.pin (a, oe) (List.mem_append_left _ List.mem_cons_self)).1
    obtain ⟨vs, hv⟩ := hf
    have hx : ObjOk X.prog X.w H s.heap dd (.xd fs) := I.hok dd _ hdd
    obtain ⟨mA, hns, _⟩ := hx
    obtain ⟨od, ho, _⟩ := lookIn_ns hns
    have J : PySem.W.InstAt s.heap a oe C (some od) := ⟨hpin, hz.1, by unfold PySem.W.notCls; rw [hv], by rw [hz.2.1]; exact ho⟩
    have hcl : (PySem.W.clsIn X.K C).isSome = true := by
      have h1 := T.hd
      unfold PySem.W.hasDictIn at h1
      cases hc : PySem.W.clsIn X.K C with
      | none => rw [hc] at h1; cases h1
      | some _ => rfl
    exact PySem.W.kia_one (PySem.W.kitx_exc hcl T.hg T.hk T.hs T.ha T.hn T.ht T.hm) I.kIn J hk (fun z => nomatch z) fun tk => ⟨.bl b, H, I.kept (t' := tk) fun _ _ z => z, rfl, q⟩
/-- isM: which of the classes that are caught are of this class -/
def dIsX (isM : Str → Option Bool) (i : Nat) : Rho → Res D := fun r => match r[i]? with
  | some (some (.obj n _ _)) => match isM n with
    | some b => .ok (.bl b)
    | none => .bad
  | _ => .bad
theorem de_isX {a C dd : Addr} {oe : Obj} {pn : List (Addr × Obj)} {i : Nat} {nm xc : Str} {pn' pc : Pos} {isM : Str → Option Bool} {v : V} {cv : Value} (k : kd G i = .x a C dd) (T : ExcC X.K C) (hz : L2N.Zn (.ref C) (some dd) oe) (hf : ∃ vs, oe.data = .fields vs)
    (hcv : ∀ u, RelV v u → u = cv) (hM : ∀ n b, c.cm n = some C → isM n = some b → PySem.W.kitOne X.K (.ref C) cv = some b)
    (hm : X.mg "isinstance" = none) (hg : Gl X "isinstance") (hv : PE (X.suite a ((a, oe) :: pn)) (.Name nm pn') (tVar i)) (hT : PE (X.suite a ((a, oe) :: pn)) (.Name xc pc) (tC v))
    (hs1 : starEach [.Name nm pn', .Name xc pc] X.env = (false, eval (.Name nm pn') X.env) :: starEach [.Name xc pc] X.env := by rfl) (hs2 : starEach [.Name xc pc] X.env = (false, eval (.Name xc pc) X.env) :: starEach [] X.env := by rfl) (hpl : (backTo pos (starEach [.Name xc pc] X.env)).any (·.1) = false := by rfl) :
    PE (X.suite a ((a, oe) :: pn)) (.Call (.Name "isinstance" p) [.Name nm pn', .Name xc pc] [] pos) (tV c G (dIsX isM i)) := by
  refine pe_imp (pe_callB (call_isX T hz hf) hg hm (by decide +kernel) (pa_cons hv (pa_cons hT pa_nil hs2) hs1) (he := hs1) (hpl := hpl)) fun σ H Q ⟨S0, H0, S, r, ok, p⟩ => ?_
  unfold dIsX at p
  split at p
  · rename_i n ns vs hr
    obtain ⟨v', h1, h2⟩ := ok.slot i _ hr
    rw [k] at h2
    obtain ⟨rfl, n', ns', ds', fs, z1, z2, z3, z4, z5⟩ := h2
    cases z1
    split at p
    · rename_i b hb
      exact ⟨.ref a, h1, v, cv, b, fs, rfl, hcv, ok.ex _ _ z3, hM n b z2 hb, p.here ok.ex (.bl _)⟩
    · exact p.elim
  · exact p.elim
end
end Dx
end S_DxG
section S_DxT
set_option Elab.async false
set_option linter.all false
set_option maxRecDepth 100000
set_option maxHeartbeats 2000000
namespace Dx
open PySem L2
theorem gok0 {K : PySem.W.Frag} {cm : CM} {rm : Bool} {E : XK} {G : List Ow} : Gok (cfE K cm rm E) G := fun _ h => nomatch h
theorem gokC {c : Cf} {G : List Ow} : Gok c.calm G := fun _ h => nomatch h
theorem gokT {c : Cf} {W : WX} {G : List Ow} : Gok (c.try W G) G := fun _ h => (Option.some.inj h).symm
theorem fnok_bad {P : Program} {w : World} {K : PySem.W.Frag} {mg : Str → Option Value} {base : Heap} {CX : CXT} {k : Nat} {f : Addr} {fd : FuncData} {ps : List Str} {cm : CM} {ms : List Bool} {rm : Bool} : FnOk P w K mg base CX k f fd ps (spD K cm ms rm fun _ => .bad) :=
  ⟨fun _ _ _ _ ⟨_, _, _, _, h⟩ => h.elim, fun _ _ _ _ _ _ _ _ _ _ _ _ _ ⟨_, _, _, _, h⟩ => h.elim⟩
theorem ints_rp {K : PySem.W.Frag} {cm : CM} {S : Hp} : ∀ ns : List Int, RpA K cm S (ns.map V.int) (ns.map D.int)
  | [] => .nil
  | n :: ns => .cons (.int n) (ints_rp ns)
theorem law_sp {K : PySem.W.Frag} {cm : CM} {F : List D → Res D} {ns : List Int} {H : Hp} {a : Addr} {Q : VK} {E : XK} (h : F [.fz (ns.map D.int)] = .ok (.bl true)) (hS : SqL K H a (ns.map V.int)) (k : ∀ H', Q (.bl true) H') : spD K cm [false] false F [.ref a] H Q E :=
  ⟨H, [.fz (ns.map D.int)], Ex.refl, ⟨.fz hS (ints_rp ns), trivial⟩, by
    rw [h]
    intro S' H' w b hb
    cases hb
    exact k H'⟩
theorem cx_never {P : Program} {w : World} {outer : List Env} {H : Hp} {s s' : Shared} {e : Value} (h : L2N.CX P w outer H s (fun _ _ _ => False) e s') : False := by
  obtain ⟨_, _, _, _, _, _, _, _, _, _, _, _, hf⟩ := h
  exact hf
section
variable {X : Cx} {c : Cf} {L G G' : List Ow} {f f1 f2 : Rho → Res D} {o e : Expr} {pos apos : Pos}
def asS : D → Res Str
  | .str s => .ok s
  | _ => .bad
def dStr (g : D → D → Res D) (f1 f2 : Rho → Res D) : Rho → Res D := fun r => (f1 r).bind fun x => (asS x).bind fun _ => (f2 r).bind fun y => g x y
def strsD (zs : List Str) : List D := zs.map .str
noncomputable def splitD : D → D → Res D
  | .str a, .str b => guard ((b.length == 0) = false ∧ a.length + 2 ≤ sizeLine) (.ok (.lst (strsD (Txt.split a b))))
  | _, _ => .bad
def startD : D → D → Res D
  | .str a, .str b => .ok (.bl (Txt.startswith a b))
  | _, _ => .bad
def endD : D → D → Res D
  | .str a, .str b => .ok (.bl (Txt.endswith a b))
  | _, _ => .bad
noncomputable def ordX : D → Res D
  | .str x => guard (x.length = 1) (.ok (.int (x.cps.getD 0 0 : Nat)))
  | _ => .bad
noncomputable def fmtD : D → Res D
  | .str y => guard (y.length ≤ sizeLine) (.ok (.str y))
  | .int i => guard (i.natAbs.log2 < 1920) (.ok (.str (toString i)))
  | _ => .bad
def dJnil : Str → Rho → Res D := fun acc _ => .ok (.str acc)
noncomputable def dJcons (f : Rho → Res D) (g : Str → Rho → Res D) : Str → Rho → Res D := fun acc r => (f r).bind fun d => (asS d).bind fun y => guard ((acc ++ y).length ≤ sizeLine) (g (acc ++ y) r)
def dJoin (g : Str → Rho → Res D) : Rho → Res D := g Str.empty
noncomputable def truB : D → Res Bool
  | .non => .ok false
  | .bl b => .ok b
  | .int i => .ok (i != 0)
  | .str y => guard (y.length ≤ sizeLine) (.ok ((y.length : Int) != 0))
  | .lst ds => .ok (!ds.isEmpty)
  | .fz ds => .ok (!ds.isEmpty)
  | .tup ds => .ok (!ds.isEmpty)
  | _ => .bad
noncomputable def dTru (f : Rho → Res D) : Rho → Res Bool := fun r => (f r).bind truB
theorem RpA.empty {K : PySem.W.Frag} {cm : CM} {S : Hp} {vs : List V} {ds : List D} (h : RpA K cm S vs ds) : (!ds.isEmpty) = !vs.isEmpty := by cases h <;> rfl
theorem dt_tru (he : PE X e (tR c G f)) (hw : ∀ whole, isTrue e X.env whole = (do let v ← whole; standAt e.pos; holding [v] (truthy v))) (hK : c.K = X.K := by rfl) : PT X e (tT c G (dTru f)) :=
  pt_imp (pt_truth he hw) fun σ H Q ⟨S0, H0, S, r, ok, p⟩ => rd_seq ok p fun d v S1 H1 w1 o1 m1 p1 => by
    rw [← hK]
    cases d with
    | non => cases RpB.non m1; exact ⟨_, rfl, p1.go o1.ex _ rfl⟩
    | bl b => cases RpB.bl m1; exact ⟨_, rfl, p1.go o1.ex _ rfl⟩
    | int i => cases RpB.int m1; exact ⟨_, rfl, p1.go o1.ex _ rfl⟩
    | str y =>
      cases RpB.str m1
      obtain ⟨hl, p1⟩ := p1.gd
      exact ⟨_, ⟨hl, rfl⟩, p1.go o1.ex _ rfl⟩
    | lst ds => obtain ⟨q, xs, rfl, a1, r1⟩ := RpB.list m1 o1.ex; exact ⟨_, .inl ⟨xs, .inl (.inl a1), r1.empty⟩, p1.go o1.ex _ rfl⟩
    | fz ds => obtain ⟨q, xs, rfl, a1, r1⟩ := RpB.fz m1 o1.ex; exact ⟨_, .inl ⟨xs, a1, r1.empty⟩, p1.go o1.ex _ rfl⟩
    | tup ds => obtain ⟨q, xs, rfl, a1, r1, s1⟩ := RpB.tup m1 o1.ex; exact ⟨_, .inr (.inl ⟨xs, a1, r1.empty⟩), p1.go o1.ex _ rfl⟩
    | _ => exact p1.elim
def augF (i : Nat) (g : D → D → Res D) (f : Rho → Res D) : Rho → SR := fun r => liftS r (dVar i r) fun x => liftS r (f r) fun y => liftS r (g x y) fun z => .nx (r.set i (some z))
end
end Dx
end S_DxT
section S_DxS
set_option Elab.async false
set_option linter.all false
set_option maxRecDepth 100000
set_option maxHeartbeats 2000000
namespace Dx
open PySem L2
/-- new own lists that stand in each other -/
def mG (c : Cf) : Md V D := fun H S' H' v d => ∃ k M A, d = .st k M ∧ A.Nodup ∧ A.length = M.length ∧ (∃ a, A[k]? = some a ∧ v = .ref a) ∧ (∀ a ∈ A, H a = none ∧ S' a = none) ∧
  ∀ (n : Nat) row, M[n]? = some row → ∃ a xs, A[n]? = some a ∧ H' a = some (.lst xs) ∧ RmA c.K c.cm A S' xs row
instance {c : Cf} : Anti (mG c) := ⟨fun e ⟨k, M, A, h1, h2, h3, h4, h5, h6⟩ => ⟨k, M, A, h1, h2, h3, h4, fun a ha => ⟨e.nn (h5 a ha).1, (h5 a ha).2⟩, h6⟩⟩
section
variable {X : Cx} {c : Cf} {L G G' : List Ow} {σ : St} {S0 H0 S H S' H' : Hp} {r : Rho}
variable {e : Expr} {pos : Pos} {f : Rho → Res D}
def isOwn : D → Bool
  | .own _ => true
  | .st _ _ => true
  | _ => false
theorem RmA.plain {A : List Addr} {xs : List V} {row : List D} (h : RmA c.K c.cm A S xs row) (hp : row.all (fun d => !isOwn d) = true) : RpA c.K c.cm S xs row := by
  obtain ⟨hl, h⟩ := h
  induction row generalizing xs with
  | nil =>
    cases xs with
    | nil => exact .nil
    | cons _ _ => cases hl
  | cons d row ih =>
    cases xs with
    | nil => cases hl
    | cons v xs =>
      rw [List.all_cons, Bool.and_eq_true] at hp
      refine .cons ?_ (ih hp.2 (by simpa using hl) fun i v d hv hd => h (i + 1) v d (by simpa using hv) (by simpa using hd))
      rcases h 0 v d rfl rfl with z | ⟨k, a, rfl, _⟩
      · exact z
      · cases hp.1
theorem RmA.atI {A : List Addr} {xs : List V} {row : List D} {j : Int} {d : D} (h : RmA c.K c.cm A S xs row) (q : L2.atI row j = some d) : ∃ v, L2.atI xs j = some v ∧ RmV c.K c.cm A S v d := by
  unfold L2.atI at q ⊢
  rw [h.1]
  cases hj : ixN row.length j with
  | none => rw [hj] at q; cases q
  | some n =>
    rw [hj] at q
    have q : row[n]? = some d := q
    have hlt : n < xs.length := by rw [h.1]; exact (List.getElem?_eq_some_iff.mp q).1
    exact ⟨xs[n], List.getElem?_eq_getElem hlt, h.2 n _ d (List.getElem?_eq_getElem hlt) q⟩
theorem RmA.set {A : List Addr} {xs : List V} {row : List D} {v : V} {d : D} (h : RmA c.K c.cm A S xs row) (hv : Rp c.K c.cm S v d) (n : Nat) : RmA c.K c.cm A S (xs.set n v) (row.set n d) := by
  refine ⟨by rw [List.length_set, List.length_set]; exact h.1, fun i u e hu he => ?_⟩
  rw [List.getElem?_set] at hu he
  split at hu
  · rename_i hni
    rw [if_pos hni] at he
    split at hu
    · cases hu
      split at he
      · cases he; exact .inl hv
      · cases he
    · cases hu
  · rename_i hni
    rw [if_neg hni] at he
    exact h.2 i u e hu he
end
end Dx
end S_DxS
section S_DxU
set_option Elab.async false
set_option linter.all false
set_option maxRecDepth 100000
set_option maxHeartbeats 2000000
namespace Dx
open PySem L2
def optL (g : D → Option D) : List D → Option (List D)
  | [] => some []
  | d :: ds => match g d, optL g ds with
    | some e, some es => some (e :: es)
    | _, _ => none
def derefD : Nat → List (List D) → D → Option D
  | _, _, .st _ _ => none
  | 0, _, .own _ => none
  | n + 1, M, .own k => match M[k]? with
    | some row => match optL (derefD n M) row with
      | some ds => some (.lst ds)
      | none => none
    | none => none
  | _, _, d => some d
section
variable {X : Cx} {c : Cf} {L G G' : List Ow} {σ : St} {S0 H0 S H S' H' : Hp} {r : Rho}
/-- all the own lists of slot i become values; the slots ws, that hold some of them, are given up -/
def pubF (n i : Nat) (ws : List Nat) : Rho → SR := fun r => match r[i]? with
  | some (some (.st k M)) => match derefD n M (.own k) with
    | some d => .nx ((wipeR r ws).set i (some d))
    | none => .bad
  | _ => .bad
end
end Dx
end S_DxU
section S_DxV
set_option Elab.async false
set_option linter.all false
set_option maxRecDepth 100000
set_option maxHeartbeats 2000000
namespace Dx
open PySem L2
section
variable {prog : Program} {w : World} {A : Around} {E : Value → Shared → Prop} {s : Shared}
theorem drawsT (hh : A.handled = none) (it l : Addr) (hne : l ≠ it) (its : Array Value) : Draws prog w A it [it, l] its.size (fun i v => its[i]? = some v) (fun i h => h.IsTupleIter it l i ∧ h.IsTuple l its) where
  live := fun _ _ st => let ⟨o, ho, _⟩ := st.1; ⟨o, ho⟩
  frame := fun _ _ _ st hk => ⟨st.1.at fun o z => hk it (by simp) o z, let ⟨o, ho, r⟩ := st.2; ⟨o, hk l (by simp) o ho, r⟩⟩
  item := fun i s Q E hi st hQ => RZ.nextOf_tuple_item st.1 st.2 (x := its[i]) (by simp [hi]) fun h' h1 h2 =>
    hQ _ h' s.toks (by simp [hi]) ⟨h1, st.2.extBut h2.extBut hne⟩ h2
  done := fun s Q E st hE => RZ.nextOf_tuple_end hh st.1 st.2 (by simp) hE
theorem meets_enT (l : Addr) (its : Array Value) (n : Nat) (dct : Option Addr) (sl : Array (Option Value)) :
    Meets (Builtin.«enumerate.__new__» ⟨[.type "enumerate", .ref l], []⟩) (fun _ R s => s.heap.get? l = some { cls := .type "tuple", dict := dct, data := .seq its n, slots := sl } ∧
      R (.ok (.ret (.ref (s.heap.push { cls := .type "tuple_iterator", data := .fields #[.ref l, .int 0 0] }).objs.size)))
        { s with heap := (s.heap.push { cls := .type "tuple_iterator", data := .fields #[.ref l, .int 0 0] }).push { cls := .type "enumerate", data := .fields #[.none, .bool false, .ref s.heap.objs.size, rawInt 0, .none, .none] } }) :=
  .of_wp fun prog w A R s h => by
    obtain ⟨hp, g, d, tk, os⟩ := s; obtain ⟨hl, h⟩ := h
    have hsub := sub_enumerate
    have hT : Heap.IsTuple (Shared.heap ⟨hp, g, d, tk, os⟩) l its := ⟨_, hl, rfl, n, rfl⟩
    wp_walk using AutoSeq1.wpAny_loadPart' hl
    refine wpAny_stack_any fun st => wpAny_pure ?_
    split
    · rename_i c _ _ _ _ _
      cases (c == Value.type "enumerate")
      · wp_walk using AutoSeq1.wpAny_loadPart' hl, wpAny_pyIter_tuple hT
        exact ⟨_, rfl, h⟩
      · wp_walk using AutoSeq1.wpAny_loadPart' hl, wpAny_pyIter_tuple hT
        exact ⟨_, rfl, h⟩
    · wp_walk using AutoSeq1.wpAny_loadPart' hl, wpAny_pyIter_tuple hT
      exact ⟨_, rfl, h⟩
theorem call_enT {l : Addr} {its : Array Value} {Q : Value → Shared → Prop} (hL : s.heap.IsTuple l its)
    (h : ∀ h', IsEnum h' (s.heap.objs.size + 1) s.heap.objs.size 0 .none → h'.IsTupleIter s.heap.objs.size l 0 →
      (∀ b o, s.heap.get? b = some o → h'.get? b = some o) → Q (.ref (s.heap.objs.size + 1)) { s with heap := h' }) :
    wpAny (model prog w) A (call (.type "enumerate") [.ref l]) Q E s := by
  obtain ⟨⟨c, dct, dt, sl⟩, hl, hc, n, hd⟩ := hL
  replace hc : c = .type "tuple" := hc
  replace hd : dt = .seq its n := hd
  subst hc hd
  refine callType_new F.called_enumerate (by decide) (F.typeCall_enumerate_1 _) (F.newCall_enumerate_1 _) (fun obj => F.args_object_init_2 obj _) F.entry_enumerate_new (meets_enT l its n dct sl) ⟨hl, ?_⟩
  have hz : (s.heap.push { cls := .type "tuple_iterator", data := .fields #[.ref l, .int 0 0] }).objs.size = s.heap.objs.size + 1 := Heap.size_push ..
  show _ ∧ _
  rw [hz]
  have he : IsEnum ((s.heap.push { cls := .type "tuple_iterator", data := .fields #[.ref l, .int 0 0] }).push
      { cls := .type "enumerate", data := .fields #[.none, .bool false, .ref s.heap.objs.size, rawInt 0, .none, .none] }) (s.heap.objs.size + 1) s.heap.objs.size 0 .none := by
    have := Heap.get?_push_size (s.heap.push { cls := .type "tuple_iterator", data := .fields #[.ref l, .int 0 0] })
      (o := { cls := .type "enumerate", data := .fields #[.none, .bool false, .ref s.heap.objs.size, rawInt 0, .none, .none] }) rfl
    rw [hz] at this; exact this
  exact ⟨⟨_, he, rfl⟩, h _ he ⟨_, Heap.get?_push_of_some _ (Heap.get?_push_size _ rfl), rfl, rfl⟩ fun b o x => Heap.get?_push_of_some _ (Heap.get?_push_of_some _ x)⟩
end
def IteT (K : PySem.W.Frag) (a : Addr) : It :=
  ⟨fun i H => ∃ (xs : List V) (x : V), SqT K H a xs ∧ xs[i]? = some x, fun i H v H' => ∃ T x, v = .ref T ∧ H T = none ∧ H' = upd H T (.tup [.int (i : Nat), x]) ∧ ∀ xs, SqT K H a xs → xs[i]? = some x, fun i H => ∃ xs : List V, SqT K H a xs ∧ xs.length ≤ i⟩
theorem turn_enT {P : Program} {w : World} {K : PySem.W.Frag} {elts : List Expr} {kk : Nat} {tpos : Pos} (a e it : Addr) (hai : a ≠ it) (hae : a ≠ e) :
    Turn P w K (.Tuple elts kk tpos) (IteT K a) [e, it] e (fun i h => (∃ old, IsEnum h e it ((i : Nat) : Int) old) ∧ h.IsTupleIter it a i ∧ e ≠ it) where
  mem := by simp
  obj := fun i h st b hb => by
    obtain ⟨⟨old, he⟩, ⟨o, ho, hc, hd⟩, _⟩ := st
    have e' : b = e ∨ b = it := by simpa using hb
    rcases e' with z | z
    · rw [z]; exact ⟨_, he, fun v q => nomatch q⟩
    · rw [z]; exact ⟨o, ho, fun v q => by rw [hd] at q; cases q⟩
  keep := fun i h h' st k => let ⟨⟨old, he⟩, hi, hne⟩ := st; ⟨⟨old, k e (by simp) _ he⟩, hi.at fun o q => k it (by simp) o q, hne⟩
  item := by
    intro X hP hw hK hc i pins s σ H E I hf st hg
    subst hP hw hK
    obtain ⟨⟨old, he⟩, hit, hne⟩ := st
    obtain ⟨xs, x, hq, hx⟩ := hg
    obtain ⟨its, rv, p, hz⟩ := I.tuple hq
    obtain ⟨u, hu, ru⟩ := rv.get hx
    have hel : e < s.heap.objs.size := Heap.lt_size he
    have hil : it < s.heap.objs.size := by obtain ⟨_, q, _⟩ := hit; exact Heap.lt_size q
    have hiu : its.toArray[i]? = some u := by simpa using hu
    have dr : Draws X.prog X.w X.A.in1 it [it, a] its.toArray.size (fun i v => its.toArray[i]? = some v) (fun i h => h.IsTupleIter it a i ∧ h.IsTuple a its.toArray) := drawsT (show X.A.in1.handled = none from I.ok.hd hc) it a hai its.toArray
    have hea : e ∉ [it, a] := by simp [hne, Ne.symm hae]
    refine wpAny_pyNext_enum_itemD dr he ⟨hit, p⟩ (Array.getElem?_eq_some_iff.mp hiu).1 hne hea fun u' h' tk hu' ho hst hT hsz hk => ?_
    rw [hiu] at hu'; cases hu'
    refine ⟨_, rfl, wpAny_letOwnedTupleGo_enum (s := { s with heap := h', toks := tk + 1 }) ho fun h'' he' sb => ?_⟩
    have hT2 : h''.get? s.heap.objs.size = some { cls := .type "tuple", data := .seq #[.int i tk, u] } := (sb.2 _ (Nat.ne_of_gt hel)).trans hT
    have new : ObjOk X.prog X.w (upd H s.heap.objs.size (.tup [.int (i : Nat), x])) h'' s.heap.objs.size (.tup [.int (i : Nat), x]) :=
      ⟨by show 2 ≤ sizeLine; decide, [.int i tk, u], .cons ⟨_, rfl⟩ (.cons ru .nil), ⟨_, hT2, rfl, _, rfl⟩⟩
    have I1 : Inv X pins σ (upd H s.heap.objs.size (.tup [.int (i : Nat), x])) { s with heap := h'', toks := tk + 1 } :=
      I.turnedNew (ch := [e, it]) (fun b ob hb q => (sb.2 b (fun z => hb (by simp [z]))).trans (hk b ob (fun z => hb (by simp [z])) (fun z => hb (by simp [z])) q)) hf (Nat.le_refl _) new
    refine ⟨.ref s.heap.objs.size, _, I1, rfl, ⟨_, x, rfl, I.hok.fresh (Nat.le_refl _), rfl, fun ys hy => by rw [I.tuple_inj hy hq]; exact hx⟩, ⟨⟨u, ?_⟩, hst.1.at fun o q => (sb.2 it (Ne.symm hne)).trans q, hne⟩, fun b hb => ?_⟩
    · have e1 : ((i + 1 : Nat) : Int) = (i : Int) + 1 := by omega
      rw [e1]; exact he'
    · have hb' : b < s.heap.objs.size := by
        have e' : b = e ∨ b = it := by simpa using hb
        rcases e' with z | z
        · rw [z]; exact hel
        · rw [z]; exact hil
      rw [upd_ne (Nat.ne_of_lt hb')]
      exact (hf b hb).1
  done := by
    intro X hP hw hK hc i pins s σ H E I hf st hg
    subst hP hw hK
    obtain ⟨⟨old, he⟩, hit, hne⟩ := st
    obtain ⟨xs, hq, hx⟩ := hg
    obtain ⟨its, rv, p, hz⟩ := I.tuple hq
    obtain ⟨f0, f1, f2, f3, f4, f5⟩ := hf it (by simp)
    have hl := rv.length
    have dr : Draws X.prog X.w X.A.in1 it [it, a] i (fun _ _ => False) (fun j h => j = i ∧ h.IsTupleIter it a i ∧ h.IsTuple a its.toArray) :=
      { live := fun _ _ st => let ⟨o, ho, _⟩ := st.2.1; ⟨o, ho⟩
        frame := fun _ _ _ st hk => ⟨st.1, st.2.1.at fun o z => hk it (by simp) o z, let ⟨o, ho, r⟩ := st.2.2; ⟨o, hk a (by simp) o ho, r⟩⟩
        item := fun j s Q E hi st hQ => absurd st.1 (Nat.ne_of_lt hi)
        done := fun s Q E st hE => RZ.nextOf_tuple_end (show X.A.in1.handled = none from I.ok.hd hc) st.2.1 st.2.2 (by simp; omega) hE }
    exact wpAny_pyNext_enum_endD dr he ⟨rfl, hit, p⟩ fun h' eb => ⟨rfl, I.turned (t' := s.toks) (fun b o hb q => eb b o hb q) f0 f1 f3 f4 f5⟩
  self := fun A i s Q E st h => let ⟨⟨_, he⟩, _⟩ := st; wpAny_pyIter_enum he h
def iEnT (K : PySem.W.Frag) (ta : TA) : TI := fun σ H R => ta σ H fun vs H1 => ∃ a xs, vs = [.ref a] ∧ SqT K H1 a xs ∧ R (IteT K a) H1
theorem pi_enT {X : Cx} {e : Expr} {ta : TA} {p pos tpos : Pos} {elts : List Expr} {kk : Nat} (hg : Gl X "enumerate") (hm : X.mg "enumerate" = none) (ha : PA X [e] ta) (hs : starEach [e] X.env = [(false, eval e X.env)] := by rfl) :
    PI X (.Tuple elts kk tpos) (.Call (.Name "enumerate" p) [e] [] pos) (iEnT X.K ta) := by
  refine ⟨fun pins s σ H R I h => ?_⟩
  refine PyProof.Rows.Call_ (ld_blt I hg hm PyProof.Rows.boot_enumerate (PyProof.Rows.callWith_type1 (thn (ha.run pos pins s σ H _ I h) fun us s1 ⟨vs, H1, I1, r1, q1⟩ => ?_) hs rfl))
  obtain ⟨a, xs, ex, hq, q⟩ := q1
  subst ex
  cases r1 with
  | cons r rr =>
    cases rr
    cases r
    obtain ⟨its, rv, p', hz⟩ := I1.tuple hq
    have hal : a < s1.heap.objs.size := by obtain ⟨o, ho, _⟩ := p'; exact Heap.lt_size ho
    refine call_enT p' fun h' he hit hk => wpAny_pyIter_enum he ?_
    have I2 : Inv X pins σ H1 { s1 with heap := h' } := I1.kept (t' := s1.toks) hk
    refine ⟨s1.heap.objs.size + 1, [s1.heap.objs.size + 1, s1.heap.objs.size], _, _, H1, rfl, I2, turn_enT a (s1.heap.objs.size + 1) s1.heap.objs.size (Nat.ne_of_lt hal) (Nat.ne_of_lt (Nat.lt_succ_of_lt hal)), ⟨⟨.none, he⟩, hit, Nat.succ_ne_self _⟩, fun b hb => ?_, q⟩
    have e' : b = s1.heap.objs.size + 1 ∨ b = s1.heap.objs.size := by simpa using hb
    have hle : s1.heap.objs.size ≤ b := by
      rcases e' with z | z
      · rw [z]; exact Nat.le_add_right _ _
      · rw [z]; exact Nat.le_refl _
    exact I1.fpOk hle (I1.hok.fresh hle)
theorem walk_enT {K : PySem.W.Frag} {a : Addr} {xs : List V} : Walk (IteT K a) xs.length (fun H => SqT K H a xs) (YPair (fun i => some (.int (i : Nat))) (fun i => xs[i]?)) := by
  refine ⟨fun i _ hi q => ⟨xs, xs[i], q, by simp [hi]⟩, fun _ q => ⟨xs, q, Nat.le_refl _⟩, fun i H v H' _ q y => ?_⟩
  obtain ⟨T, x, h1, h2, h3, h4⟩ := y
  exact ⟨T, .int (i : Nat), x, h1, h2, h3, rfl, h4 xs q⟩
/-- each item with its number -/
def numd : Nat → List D → List D
  | _, [] => []
  | n, d :: ds => .tup [.int (n : Int), d] :: numd (n + 1) ds
theorem numd_len : ∀ (ds : List D) (n : Nat), (numd n ds).length = ds.length
  | [], _ => rfl
  | d :: ds, n => by rw [numd, List.length_cons, List.length_cons, numd_len ds (n + 1)]
theorem numd_get : ∀ (ds : List D) (n i : Nat) (d : D), ds[i]? = some d → (numd n ds)[i]? = some (.tup [.int ((n + i : Nat) : Int), d])
  | [], _, _, _, h => by simp at h
  | d :: ds, n, 0, e, h => by simp at h; subst h; simp [numd]
  | d :: ds, n, i + 1, e, h => by
    have := numd_get ds (n + 1) i e (by simpa using h)
    rw [numd, List.getElem?_cons_succ, this, show n + 1 + i = n + (i + 1) by omega]
section
variable {X : Cx} {c : Cf} {G : List Ow} {f : Rho → Res D} {e : Expr} {pos : Pos}
theorem YOk.num {S : Hp} {xs : List V} {ds : List D} (rr : RpA c.K c.cm S xs ds) : YOk c S (numd 0 ds) (YPair (fun i => some (.int (i : Nat))) (fun i => xs[i]?)) := by
  intro i S1 H1 x H2 hi e1 e2 y
  obtain ⟨T, a, b, rfl, h1, rfl, h2, h3⟩ := y
  cases h2
  obtain ⟨d, g1, g2⟩ := rr.getV h3
  refine ⟨upd S1 T (.tup [.int (i : Nat), b]), .tup [.int ((0 + i : Nat) : Int), d], Fwd.both e2 h1, numd_get ds 0 i d g1, ?_⟩
  rw [Nat.zero_add]
  have ex : Ex S1 (upd S1 T (.tup [.int (i : Nat), b])) := Ex.new (e2.nn h1)
  exact .tup upd_same (.cons (.int _) (.cons ((g2.mono e1).mono ex) .nil))
def itemsF (d : D) : Res (List D) := match d with
  | .lst ds => .ok ds
  | .fz ds => .ok ds
  | _ => .bad
def enumL (d : D) : Res (List D) := (itemsF d).bind fun ds => .ok (numd 0 ds)
def enumT (d : D) : Res (List D) := (itemsT d).bind fun ds => .ok (numd 0 ds)
end
end Dx
end S_DxV
section S_DxW
set_option Elab.async false
set_option linter.all false
set_option maxRecDepth 100000
set_option maxHeartbeats 2000000
namespace Dx
open PySem L2 PyProof.Rows
end Dx
end S_DxW
section S_DxX
set_option Elab.async false
set_option linter.all false
set_option maxRecDepth 100000
set_option maxHeartbeats 2000000
namespace Dx
open PySem L2
section
variable {X : Cx} {c : Cf} {L G G' : List Ow} {f f1 f2 : Rho → Res D} {a b e : Expr} {pos : Pos} {tg : Expr}
/-- sum of a list of ints -/
def allInt : List D → Option (List Int)
  | [] => some []
  | .int i :: ds => match allInt ds with
    | some is => some (i :: is)
    | none => none
  | _ => none
def sumD : D → Res D
  | .lst ds => match allInt ds with
    | some is => .ok (.int is.sum)
    | none => .bad
  | _ => .bad
def popF (i : Nat) (t : D → Rho → Res Rho) : Rho → SR := fun r => liftS r (ownL i r) fun ds => match ds[ds.length - 1]? with
  | some d => match t d (r.set i (some (.lst ds.dropLast))) with
    | .ok r' => .nx r'
    | _ => .bad
  | none => .bad
theorem RpA.dropLast {S : Hp} {vs : List V} {ds : List D} (h : RpA c.K c.cm S vs ds) : RpA c.K c.cm S vs.dropLast ds.dropLast := by
  rw [List.dropLast_eq_take, List.dropLast_eq_take, h.length]
  exact h.take _
theorem ds_pop (i : Nat) {x : Str} {pn apos cpos : Pos} {ks : List Nat} {t : D → Rho → Res Rho} (hg : Gok c G) (k : kd G i = .o) (ho : PE X (.Name x pn) (tVar i)) (ht : PG X tg (gD c G G' ks t))
    (hbase : attributeBase (.Name x pn) "pop" X.env (eval (.Name x pn) X.env) = eval (.Name x pn) X.env := by rfl) (hline : (apos.endLine == cpos.line) = true := by rfl)
    (hs : swapsWithSole [tg] (.Call (.Attribute (.Name x pn) "pop" apos) [] [] cpos) pos.line X.env = pure false := by rfl) (hw : swappedStores [tg] (.Call (.Attribute (.Name x pn) "pop" apos) [] [] cpos) X.env = pure none := by rfl)
    (h1 : (assignEach [tg] X.env).map (·.2) = [assign tg X.env] := by rfl) :
    PS X (.Assign [tg] (.Call (.Attribute (.Name x pn) "pop" apos) [] [] cpos) pos) (sD c L G G' (popF i t)) :=
  ps_imp (ps_asg (pe_bm0 PySem.F.plainAttrs_list PySem.F.slot_list_pop PySem.F.type_list_pop mt_pop ho hbase hline) ht hs hw h1) fun E σ H ⟨S0, H0, S, r, ok, p⟩ => by
    obtain ⟨q, xs, ds, hd, z1, z2, z3, p1⟩ := of_ownL ok k p
    refine ⟨.ref q, z1, .inl ⟨rfl, xs, .inl (.inl z2)⟩, ?_⟩
    split at p1
    · rename_i d hlast
      obtain ⟨y, hy, ry⟩ := z3.get (i := ds.length - 1) hlast
      rw [← z3.length] at hy
      refine ⟨q, xs, y, rfl, rfl, z2, hy, ?_⟩
      split at p1
      · rename_i r' hr'
        have e1 := ok.mut k hd z1 (.lst z3.dropLast)
        refine ⟨S0, H0, S, _, d, e1, ry, ?_⟩
        rw [hr']
        exact fun σ' _ e2 => p1 σ' S _ e2
      · exact p1.elim
    · exact p1.elim
end
end Dx
end S_DxX
section S_DxY
set_option Elab.async false
set_option linter.all false
set_option maxRecDepth 100000
set_option maxHeartbeats 2000000
namespace Dx
open PySem L2
section
variable {X : Cx} {CX : CXT} {k : Nat} {f C : Addr} {fd : FuncData} {ps : List Str} {sp : Sp} {E : St → XK} {x m : Str} {p pos apos : Pos} {e o : Expr} {es : List Expr} {ta : TE} {t : TA}
def tMethSD (C : Addr) (m : Str) (sp : Sp) (E : St → XK) (ta : TE) (t : TA) : TE := fun σ H Q => ta σ H fun x H1 => ∃ a dx fs, x = .ref a ∧ H1 a = some (.ins C dx fs) ∧ fs.lookup m = none ∧
  t σ H1 fun vs H2 => sp (x :: vs) H2 Q (E σ)
theorem pe_methSD {pl : Sem Bool} (he : PE X o ta) (c : Cls X.K C) (hm : Meth X.K C m f) (F : FnOk X.prog X.w X.K X.mg X.base CX k f fd ps sp) (hr : Room k X.A) (hb : L2.Binds X.K fd ps []) (hx : ∀ σ, PassesAt CX X σ (E σ)) (ha : PA X (e :: es) t)
    (hst : starEach (e :: es) X.env = (false, eval e X.env) :: starEach es X.env := by rfl) (hpl : (backTo pos (starEach es X.env)).any (·.1) = false := by rfl)
    (ht : eval (.Call (.Attribute o m apos) (e :: es) [] pos) X.env = (do
      let ov ← eval o X.env
      standAt apos.atName
      let (f, first) ← holding [ov] (getMethod ov m pl)
      callWith pos f first (backTo pos (starEach (e :: es) X.env)) (backToKw pos (keywordEach [] X.env))) := by rfl) :
    PE X (.Call (.Attribute o m apos) (e :: es) [] pos) (tMethSD C m sp E ta t) := by
  refine ⟨fun pins s σ H Q I h => ?_⟩
  refine PySem.W.methodCall_KW (pl := pl) (thn (he.run pins s σ H _ I h) fun u s1 ⟨x, H1, I1, rx, a, dx, fs, ex, ea, l, q⟩ => ?_) ht
  subst ex
  obtain rfl : u = Value.ref a := rx
  refine getmeth_ok I1 ea c hm l ?_
  refine PySem.W.callWith_K (first := [.ref a]) (h₀ := X.base) I.ok.mod.kin hm.kp (thn (ha.run pos pins s1 σ H1 _ I1 q) fun us s2 ⟨vs, H2, I2, r, q2⟩ => ⟨I2.kIn, ?_⟩) hst hpl
  exact run_fnSD (dvs := []) (us := .ref a :: us) (vs := .ref a :: vs) F hr hb .nil (hx σ) I2 (.cons rfl r) (by rw [List.append_nil]; exact q2)
def tMakeSD (C : Addr) (sp : Sp) (dvs : List V) (E : St → XK) (t : TA) : TE := fun σ H Q => t σ H fun vs H1 => ∀ x dx, H1 x = none → H1 dx = none → dx ≠ x →
  sp (.ref x :: (vs ++ dvs)) (upd (upd H1 dx (.own x)) x (.ins C dx [])) (fun v H2 => v = .non ∧ Q (.ref x) H2) (E σ)
variable {dvs : List V} {ds : List Value}
theorem run_makeSD {pins : List (Addr × Obj)} {σ : St} {H : Hp} {s : Shared} {Q : VK} {us : List Value} {vs : List V} (M : Mk X.K C f) (F : FnOk X.prog X.w X.K X.mg X.base CX k f fd ps sp) (hr : Room (k + 1) X.A) (hb : L2.Binds X.K fd ps ds) (hd : Vals dvs ds)
    (hx : PassesAt CX X σ (E σ)) (I : Inv X pins σ H s) (r : Vals vs us)
    (h : ∀ x dx, H x = none → H dx = none → dx ≠ x → sp (.ref x :: (vs ++ dvs)) (upd (upd H dx (.own x)) x (.ins C dx [])) (fun v H2 => v = .non ∧ Q (.ref x) H2) (E σ)) :
    wpAny (model X.prog X.w) X.A (call (.ref C) us) (EP X pins σ Q) X.xe s := by
  have hq := h (s.heap.objs.size + 1) s.heap.objs.size (I.hok.fresh (Nat.le_succ _)) (I.hok.fresh (Nat.le_refl _)) (Nat.ne_of_lt (Nat.lt_succ_self _))
  have I2 := Inv.made (C := C) I
  have r2 : Vals (V.ref (s.heap.objs.size + 1) :: (vs ++ dvs)) (Value.ref (s.heap.objs.size + 1) :: (us ++ ds)) := .cons rfl (r.append hd)
  have hl : (Value.ref (s.heap.objs.size + 1) :: us ++ ds).length = ps.length := by
    have e := r2.length
    rw [F.len _ _ _ _ hq] at e
    exact e.symm
  refine wpAny_call (make_map (f := f) I.kIn M.makes M.init (beq_iff_eq.mp M.fn) (codeAny_mono (F.run _ X.stack _ _ ⟨Value.ref (s.heap.objs.size + 1) :: us, []⟩ (Value.ref (s.heap.objs.size + 1) :: (us ++ ds)) _ _ (E σ) (hr.make C us [])
    (I2.env0.make C us []) (hb _ (Value.ref (s.heap.objs.size + 1) :: us) I2.kIn hl) r2 hq) fun r s' hq' => ?_))
  cases r with
  | error e => exact hx pins _ _ e s' I2 hq'
  | ok fl =>
    cases fl with
    | ret u =>
      obtain ⟨v, H', I3, rv, ev, q3⟩ := I2.after hq'
      subst ev
      exact ⟨rv, ⟨V.ref (s.heap.objs.size + 1), H', I3, rfl, q3⟩⟩
    | next => exact False.elim hq'
    | brk => exact False.elim hq'
    | cont => exact False.elim hq'
theorem pe_makeSD (M : Mk X.K C f) (F : FnOk X.prog X.w X.K X.mg X.base CX k f fd ps sp) (hr : Room (k + 1) X.A) (hg : Gl X x) (hm : X.mg x = some (.ref C)) (hb : L2.Binds X.K fd ps ds) (hd : Vals dvs ds) (hx : ∀ σ, PassesAt CX X σ (E σ))
    (ha : PA X (e :: es) t) (hdb : (x == ("__debug__" : Str)) = false := by decide) (he : starEach (e :: es) X.env = (false, eval e X.env) :: starEach es X.env := by rfl) (hpl : (backTo pos (starEach es X.env)).any (·.1) = false := by rfl) :
    PE X (.Call (.Name x p) (e :: es) [] pos) (tMakeSD C sp dvs E t) := by
  refine ⟨fun pins s σ H Q I h => ?_⟩
  refine wpAny_Call_Name_kw (ld_glob I hg hm ?_ hdb)
  refine PySem.W.callWith_K (h₀ := X.base) I.ok.mod.kin M.kp (thn (ha.run pos pins s σ H _ I h) fun us s1 ⟨vs, H1, I1, r, q⟩ => ⟨I1.kIn, ?_⟩) he hpl
  exact run_makeSD M F hr hb hd (hx σ) I1 r q
theorem pe_makeSD0 (M : Mk X.K C f) (F : FnOk X.prog X.w X.K X.mg X.base CX k f fd ps sp) (hr : Room (k + 1) X.A) (hg : Gl X x) (hm : X.mg x = some (.ref C)) (hb : L2.Binds X.K fd ps ds) (hd : Vals dvs ds) (hx : ∀ σ, PassesAt CX X σ (E σ))
    (hdb : (x == ("__debug__" : Str)) = false := by decide) : PE X (.Call (.Name x p) [] [] pos) (tMakeSD C sp dvs E tNil) := by
  refine ⟨fun pins s σ H Q I h => ?_⟩
  refine wpAny_Call_Name_kw (ld_glob I hg hm ?_ hdb)
  exact PySem.W.callWith_K0 I.kIn M.kp (run_makeSD (us := []) M F hr hb hd (hx σ) I .nil h)
end
section
variable {X : Cx} {c : Cf} {L G G' : List Ow} {f f1 : Rho → Res D} {e o : Expr} {es : List Expr} {pos apos p : Pos} {fs : Rho → Res (List D)}
/-- of an object of the class n, its field fl -/
def fldD (n fl : Str) : D → Res D
  | .obj c ns vs => if c = n then (match lookF ns vs fl with
    | some d => .ok d
    | none => .bad) else .bad
  | _ => .bad
theorem de_fld {n fl : Str} {C : Addr} (hcn : c.cm n = some C) (cl : Cls X.K C) (na : NoAttr X.K C fl) (he : PE X e (tR c G f)) (hb : attributeBase e fl X.env (eval e X.env) = eval e X.env := by rfl) :
    PE X (.Attribute e fl pos) (tV c G (dUn (fldD n fl) f)) := pe_imp (pe_fld he hb) fun σ H Q ⟨S0, H0, S, r, ok, p⟩ => rd_seq ok p fun d v S1 H1 w1 o1 m1 p1 => by
  cases d with
  | obj c' ns vs =>
    unfold fldD at p1
    dsimp only at p1
    split at p1
    · rename_i hc
      subst hc
      split at p1
      · rename_i d' hd
        obtain ⟨q, C', dx, fs, rfl, h1, h2, rfl, h4⟩ := RpB.obj m1 o1.ex
        rw [hcn] at h1; cases h1
        obtain ⟨v', hv, hr⟩ := look_rp h4 hd
        exact ⟨q, C, dx, fs, v', rfl, h2, cl, na, hv, p1.go o1.ex _ hr⟩
      · exact p1.elim
    · exact p1.elim
  | _ => exact p1.elim
/-- the own object in slot i gets a field -/
def putN (fl : Str) (d : D) : List Str → List D → List Str × List D
  | n :: ns, v :: vs => if n = fl then (n :: ns, d :: vs) else let z := putN fl d ns vs; (n :: z.1, v :: z.2)
  | ns, vs => (ns ++ [fl], vs ++ [d])
theorem putN_rp {K : PySem.W.Frag} {cm : CM} {S : Hp} {fl : Str} {d : D} {v : V} (hv : Rp K cm S v d) : ∀ {fs : List (Str × V)} {vs : List D}, RpA K cm S (fs.map (·.2)) vs →
    (putN fl d (fs.map (·.1)) vs).1 = (putF fl v fs).map (·.1) ∧ RpA K cm S ((putF fl v fs).map (·.2)) (putN fl d (fs.map (·.1)) vs).2
  | [], vs, h => by
    cases h
    refine ⟨rfl, ?_⟩
    show RpA K cm S [v] [d]
    exact .one hv
  | (n, u) :: fs, _, h => by
    cases h with | @cons _ _ d' ds' h1 h2 =>
    obtain ⟨z1, z2⟩ := putN_rp hv h2
    by_cases hn : n = fl
    · subst hn
      have e1 : putF n v ((n, u) :: fs) = (n, v) :: fs := by unfold putF; simp
      have e2 : putN n d (((n, u) :: fs).map (·.1)) (d' :: ds') = (n :: fs.map (·.1), d :: ds') := by
        show putN n d (n :: fs.map (·.1)) (d' :: ds') = _
        unfold putN; simp
      rw [e1, e2]
      exact ⟨rfl, .cons hv h2⟩
    · have e1 : putF fl v ((n, u) :: fs) = (n, u) :: putF fl v fs := by
        conv => lhs; unfold putF
        simp [hn, Ne.symm hn]
      have e2 : putN fl d (((n, u) :: fs).map (·.1)) (d' :: ds') = (n :: (putN fl d (fs.map (·.1)) ds').1, d' :: (putN fl d (fs.map (·.1)) ds').2) := by
        show putN fl d (n :: fs.map (·.1)) (d' :: ds') = _
        conv => lhs; unfold putN
        simp [hn]
      rw [e1, e2]
      exact ⟨by simp [z1], .cons h1 z2⟩
def fstF (i : Nat) (n fl : Str) (f : Rho → Res D) : Rho → SR := fun r => liftS r (f r) fun d => match r[i]? with
  | some (some (.obj c ns vs)) => if c = n ∧ ns.length < 1000 then .nx (r.set i (some (.obj c (putN fl d ns vs).1 (putN fl d ns vs).2))) else .bad
  | _ => .bad
theorem ds_fst (i : Nat) {n fl x : Str} {C : Addr} {pn pos' : Pos} (hg : Gok c G) (hcn : c.cm n = some C) (cl : Cls X.K C) (na : NoAttr X.K C fl) (k : isO (kd G i)) (ho : PE X (.Name x pn) (tVar i)) (he : PE X e (tV c G f))
    (hs : swapsWith e (some (.Attribute (.Name x pn) fl pos')) pos.line X.env = pure false := by rfl) : PS X (.Assign [.Attribute (.Name x pn) fl pos'] e pos) (sD c L G G (fstF i n fl f)) :=
  ps_imp (ps_fld ho he hs) fun E σ H ⟨S0, H0, S, r, ok, p⟩ => st_seq hg ok p fun d v S1 H1 w1 o1 m1 p1 => by
    split at p1
    · rename_i c' ns vs hr
      split at p1
      · rename_i hc
        obtain ⟨rfl, hl⟩ := hc
        obtain ⟨q, ho', s1, s2, s3, s4, s5⟩ := o1.ownI k hr
        cases s5 with | @obj C' dx _ fs _ _ h1 h2 h3 =>
        rw [hcn] at h1; cases h1
        subst h2
        obtain ⟨z1, z2⟩ := putN_rp (fl := fl) m1 h3
        refine ⟨.ref q, s1, q, C, dx, fs, rfl, s2, cl, na, by simpa using hl, p1 σ S1 _ ?_⟩
        exact o1.mutI k hr s1 (.obj hcn z1 z2)
      · exact p1.elim
    · exact p1.elim
variable {k : Nat} {fa : Addr} {fd : FuncData} {ps : List Str} {ms : List Bool} {rm : Bool} {F : List D → Res D}
def isObj (n m : Str) : D → Res Unit
  | .obj c ns _ => if c = n ∧ m ∉ ns then .ok () else .bad
  | _ => .bad
def dMeth (n m : Str) (F : List D → Res D) (f1 : Rho → Res D) (fs : Rho → Res (List D)) : Rho → Res D := fun r => (f1 r).bind fun x => (isObj n m x).bind fun _ => (fs r).bind fun ds => F (x :: ds)
theorem lookup_none {fs : List (Str × V)} {m : Str} (h : m ∉ fs.map (·.1)) : fs.lookup m = none := by
  induction fs with
  | nil => rfl
  | cons a fs ih =>
    obtain ⟨n, v⟩ := a
    simp only [List.map_cons, List.mem_cons, not_or] at h
    rw [List.lookup_cons]
    have : (m == n) = false := by simpa using h.1
    rw [this]
    exact ih h.2
theorem of_isObj {σ : St} {S H : Hp} {n m : Str} {d : D} {v : V} {g : Unit → Res D} {kk : D → Hp → Hp → Prop} (ex : Ex S H) (hv : RpB c.K c.cm S H v d) (p : PostG c σ S H ((isObj n m d).bind g) kk) :
    ∃ a C dx fs, v = .ref a ∧ c.cm n = some C ∧ H a = some (.ins C dx fs) ∧ fs.lookup m = none ∧ PostG c σ S H (g ()) kk := by
  cases d with
  | obj c' ns vs =>
    unfold isObj at p
    dsimp only at p
    split at p
    · rename_i hc
      obtain ⟨rfl, hm⟩ := hc
      obtain ⟨q, C', dx, fs, rfl, h1, h2, rfl, h4⟩ := RpB.obj hv ex
      exact ⟨q, C', dx, fs, rfl, h1, h2, lookup_none hm, p⟩
    · exact p.elim
  | _ => exact p.elim
theorem de_meth {n m : Str} {C : Addr} {pl : Sem Bool} (hcn : c.cm n = some C) (cl : Cls X.K C) (hm : Meth X.K C m fa) (F1 : FnOk X.prog X.w X.K X.mg X.base (L2N.CX X.prog X.w) k fa fd ps (spD c.K c.cm (true :: ms) rm F)) (tk : L2N.Takes X c.W) (hr : Room k X.A) (hb : L2.Binds X.K fd ps [])
    (he : PE X o (tR c G f1)) (ha : PA X (e :: es) (tM c G ms fs))
    (hst : starEach (e :: es) X.env = (false, eval e X.env) :: starEach es X.env := by rfl) (hpl : (backTo pos (starEach es X.env)).any (·.1) = false := by rfl)
    (ht : eval (.Call (.Attribute o m apos) (e :: es) [] pos) X.env = (do
      let ov ← eval o X.env
      standAt apos.atName
      let (f, first) ← holding [ov] (getMethod ov m pl)
      callWith pos f first (backTo pos (starEach (e :: es) X.env)) (backToKw pos (keywordEach [] X.env))) := by rfl) :
    PE X (.Call (.Attribute o m apos) (e :: es) [] pos) (rd c G (dMeth n m F f1 fs) (mR c rm)) :=
  pe_imp (pe_methSD (pl := pl) (E := fun σ cls d H => c.W cls d σ H) he cl hm F1 hr hb (fun σ => L2N.passAt tk σ) ha hst hpl ht) fun σ H Q ⟨S0, H0, S, r, ok, q⟩ => rd_seq ok q fun x v S1 H1 w1 o1 m1 p1 => by
    obtain ⟨a, C', dx, fs', rfl, z1, z2, z3, p2⟩ := of_isObj o1.ex m1 p1
    rw [hcn] at z1; cases z1
    exact ⟨a, dx, fs', rfl, z2, z3, rd_seq o1 p2 fun ds vs S2 H2 w2 o2 m2 p3 => call_rd (ds := x :: ds) (fun _ _ _ h => h) o2.ex ⟨RpB.mono m1 w2.s w2.h, m2⟩ (p3.anti (w1.h.trans w2.h))⟩
/-- what an __init__ promises: from its arguments' data to the new object's data -/
def spI (K : PySem.W.Frag) (cm : CM) (C : Addr) (ms : List Bool) (F : List D → Res D) : Sp := fun vs H Q E => ∃ x dx H1 S us ds, vs = .ref x :: us ∧ H1 x = none ∧ H1 dx = none ∧ dx ≠ x ∧ H = upd (upd H1 dx (.own x)) x (.ins C dx []) ∧ Ex S H1 ∧
  RpM ⟨K, cm, fun _ _ _ _ => False, none, true, fun _ _ => False⟩ S H1 ms us ds ∧
  PostG ⟨K, cm, fun cls d _ H => E cls d H, none, true, fun _ _ => False⟩ [] S H1 (F ds) fun a S' H' => (∃ ho, S' x = none ∧ H' x = some ho ∧ RpO K cm S' ho a) → Q .non H'
theorem make_rd {E : XK} {σ : St} {S H : Hp} {vs : List V} {ds : List D} {Q : VK} {C x dx : Addr} (hE : ∀ cls d H, c.W cls d σ H → E cls d H) (ex : Ex S H) (m : RpM c S H ms vs ds) (hx : H x = none) (hdx : H dx = none) (hne : dx ≠ x)
    (q : PostG c σ S H (F ds) fun a S' H' => ∀ b, mO c H S' H' b a → Q b H') : spI c.K c.cm C ms F (.ref x :: vs) (upd (upd H dx (.own x)) x (.ins C dx [])) (fun v H2 => v = .non ∧ Q (.ref x) H2) E := by
  refine ⟨x, dx, H, S, vs, ds, rfl, hx, hdx, hne, rfl, ex, RpM.cf (c := c) (c' := ⟨c.K, c.cm, fun _ _ _ _ => False, none, true, fun _ _ => False⟩) rfl rfl m, ?_⟩
  cases hF : F ds with
  | ok a =>
    rw [hF] at q
    intro S' H' w ⟨ho, h1, h2, h3⟩
    exact ⟨rfl, q S' H' w _ ⟨x, ho, rfl, hx, h1, h2, h3⟩⟩
  | err n ns vs => rw [hF] at q; exact fun C dd S' H' fs h1 w h2 h3 h4 => hE _ _ _ (q C dd S' H' fs h1 w h2 h3 h4)
  | bad => rw [hF] at q; exact q.elim
theorem de_make {x : Str} {C : Addr} (M : Mk X.K C fa) (F1 : FnOk X.prog X.w X.K X.mg X.base (L2N.CX X.prog X.w) k fa fd ps (spI c.K c.cm C ms F)) (tk : L2N.Takes X c.W) (hr : Room (k + 1) X.A) (hg : Gl X x) (hm : X.mg x = some (.ref C)) (hb : L2.Binds X.K fd ps [])
    (ha : PA X (e :: es) (tM c G ms fs)) (hdb : (x == ("__debug__" : Str)) = false := by decide) (he : starEach (e :: es) X.env = (false, eval e X.env) :: starEach es X.env := by rfl) (hpl : (backTo pos (starEach es X.env)).any (·.1) = false := by rfl) :
    PE X (.Call (.Name x p) (e :: es) [] pos) (tO c G (dCall F fs)) :=
  pe_imp (pe_makeSD (dvs := []) (E := fun σ cls d H => c.W cls d σ H) M F1 hr hg hm hb .nil (fun σ => L2N.passAt tk σ) ha hdb he hpl) fun σ H Q ⟨S0, H0, S, r, ok, q⟩ => rd_seq ok q fun ds vs S1 H1 w1 o1 m1 p1 => fun x dx hx hdx hne => by
    rw [List.append_nil]
    exact make_rd (fun _ _ _ h => h) o1.ex m1 hx hdx hne (p1.anti w1.h)
end
def startI (n : Nat) (cls : Str) (ds : List D) : Rho := some (.obj cls [] []) :: ds.map some ++ List.replicate (n - (ds.length + 1)) none
def GI (x : Addr) (ms : List Bool) (n : Nat) : List Ow := .i x :: ms.map (fun m => if m then .b else .v) ++ List.replicate (n - (ms.length + 1)) .v
def runI (n : Nat) (cls : Str) (Fb : Rho → SR) (ds : List D) : Res D := match Fb (startI n cls ds) with
  | .nx r => (match r[0]? with
    | some (some d) => .ok d
    | _ => .bad)
  | .er _ n ns vs => .err n ns vs
  | _ => .bad
theorem kd_GI_succ {x : Addr} {ms : List Bool} {n i : Nat} : kd (GI x ms n) (i + 1) = kd (G0 ms (n - 1)) i := by
  unfold kd GI G0
  rw [List.getD_eq_getElem?_getD, List.getD_eq_getElem?_getD]
  simp [Nat.sub_sub, Nat.add_comm]
theorem startI_succ {n i : Nat} {cls : Str} {ds : List D} : (startI n cls ds)[i + 1]? = (startR (n - 1) ds)[i]? := by
  unfold startI startR
  simp [Nat.sub_sub, Nat.add_comm]
section
variable {P : Program} {w : World} {K : PySem.W.Frag} {mg : Str → Option Value} {base : Heap} {cm : CM}
theorem env_startI {c : Cf} {N : List Str} {S H1 : Hp} {us : List V} {ds : List D} {ms : List Bool} {x dx C : Addr} {n : Str} (hcn : c.cm n = some C) (ex : Ex S H1) (m : RpM c S H1 ms us ds) (hn : ms.length + 1 ≤ N.length) (hx : H1 x = none) (hdx : H1 dx = none) (hne : dx ≠ x) (ht : ∀ P q, c.tb P q → LamX.TabS H1 P q := by intro _ _ z; exact False.elim z) :
    EnvOk c S H1 (GI x ms N.length) S (upd (upd H1 dx (.own x)) x (.ins C dx [])) (L2.start N (.ref x :: us)) (startI N.length n ds) := by
  have hl := m.len
  have hx1 : (upd H1 dx (.own x)) x = none := by rw [upd_ne (Ne.symm hne)]; exact hx
  have e1 : Ex H1 (upd (upd H1 dx (.own x)) x (.ins C dx [])) := (Ex.new hdx).trans (Ex.new hx1)
  have fw : Fwd S H1 S (upd (upd H1 dx (.own x)) x (.ins C dx [])) := ⟨Ex.refl, e1, ex.trans e1, fun a o h n => (by rw [n] at h; cases h), (Tk.new hdx).trans (Tk.new hx1)⟩
  refine ⟨fw, by unfold L2.start startI; simp [hl.1, hl.2], fun i d h => ?_, fun i j d e p hi hj ki kj si sj => ?_, ⟨[], .nil (fun i d hi => ?_) ht⟩⟩
  · cases i with
    | zero =>
      have h : some (some (D.obj n [] [])) = some (some d) := h
      cases h
      refine ⟨.ref x, by unfold L2.start; simp, ?_⟩
      show SlotOk c H1 S _ (.i x) (.ref x) _
      exact ⟨rfl, x, _, rfl, upd_same, ex.nn hx, hx, .obj hcn rfl .nil⟩
    | succ i =>
      rw [startI_succ] at h
      have hd := startR_some h
      obtain ⟨v, mm, h1, h2, h3⟩ := m.get hd
      refine ⟨v, ?_, ?_⟩
      · unfold L2.start
        have hlt : i < us.length := (List.getElem?_eq_some_iff.mp h1).1
        rw [List.getElem?_append, if_pos (by simpa using hlt)]
        simp [h1]
      · rw [kd_GI_succ, kd_G0_at h2]
        cases mm with
        | true => exact h3
        | false => exact h3
  · cases i with
    | succ i => rw [kd_GI_succ] at ki; exact absurd ki kd_G0
    | zero => cases j with
      | zero => rfl
      | succ j => rw [kd_GI_succ] at kj; exact absurd kj kd_G0
  · cases i with
    | zero => exact ⟨fun _ h => (by cases h), fun h => (by cases h)⟩
    | succ i => rw [kd_GI_succ]; exact kd_G0_sw
end
end Dx
end S_DxY
section S_DxZ
set_option Elab.async false
set_option linter.all false
set_option maxRecDepth 100000
set_option maxHeartbeats 2000000
namespace Dx
open PySem L2
section
variable {X : Cx} {c : Cf} {L G G' : List Ow} {f f1 f2 : Rho → Res D} {e e2 : Expr} {pos apos p : Pos} {fs : Rho → Res (List D)}
def enumS (d : D) : Res (List D) := (itemsS d).bind fun ds => .ok (numd 0 ds)
def pairs : List D → List D → List D
  | a :: as, b :: bs => .tup [a, b] :: pairs as bs
  | _, _ => []
def zipS : List D → Res (List D)
  | [.str x, .str y] => .ok (pairs (signs x) (signs y))
  | _ => .bad
def repS (x : Str) (n : Int) : Str := ⟨(List.replicate n.toNat x.cps.toList).flatten.toArray⟩
def rMulS : R2 := fun x y H Q => ∃ i j, x = .str i ∧ y = .int j ∧ j < 2 ^ 60 ∧ -(2 ^ 60) < j ∧ i.length * j.toNat ≤ sizeLine ∧ Q (.str (repS i j)) H
theorem repS_fold (x : Str) (n : Nat) (a : Array Nat) : (List.replicate n x.cps).foldl (· ++ ·) a = a ++ (List.replicate n x.cps.toList).flatten.toArray := by
  induction n generalizing a with
  | zero => simp
  | succ n ih => rw [List.replicate_succ, List.foldl_cons, ih, List.replicate_succ, List.flatten_cons]; apply Array.toList_inj.mp; simp
theorem op_mulS : OpR X (binaryOp .Mult) rMulS := by
  intro pins s σ H x y v u Q I rx ry h
  obtain ⟨i, j, rfl, rfl, h1, h2, hz, q⟩ := h
  obtain ⟨t, rfl⟩ := rx
  obtain ⟨t', rfl⟩ := ry
  have hz2 : (sizeLine : Nat) < 2 ^ 40 := by decide
  refine P.mul_str (by have a1 : ¬ j < -(2 ^ 63 : Int) := by omega
                       have a2 : ¬ j ≥ 2 ^ 63 := by omega
                       rw [decide_eq_false a1, decide_eq_false a2]; rfl) (fun hn hc => ?_) (fun hn hc => ?_) ?_
  · intro hgt
    have hj : 0 < j := by omega
    have h3 : (i.length : Int) * j ≤ sizeLine := by
      have : ((i.length * j.toNat : Nat) : Int) ≤ (sizeLine : Int) := by exact_mod_cast hz
      rw [Int.natCast_mul, Int.toNat_of_nonneg (by omega)] at this
      exact this
    have h4 : (2 ^ 63 - 1) / j + 1 ≤ (i.length : Int) := hgt
    have h5 : ((2 ^ 63 - 1) / j + 1) * j ≤ (i.length : Int) * j := Int.mul_le_mul_of_nonneg_right h4 (by omega)
    have h6 : (2 ^ 63 - 1) < ((2 ^ 63 - 1) / j + 1) * j := Int.lt_ediv_add_one_mul_self _ hj
    have h7 : ((sizeLine : Nat) : Int) < 2 ^ 40 := by exact_mod_cast hz2
    omega
  · exact decide_eq_false (Nat.not_lt.mpr hz)
  · have e1 : repS i j = ⟨(List.replicate j.toNat i.cps).foldl (· ++ ·) #[]⟩ := by
      unfold repS
      rw [repS_fold]; simp
    by_cases hn : j < 1
    · rw [if_pos hn]
      have : repS i j = Str.empty := by
        unfold repS
        rw [show j.toNat = 0 by omega]
        rfl
      rw [this] at q
      exact ⟨by decide, ⟨.str Str.empty, H, I.tok _, ⟨_, rfl⟩, q⟩⟩
    · rw [if_neg hn]
      by_cases hc : (j == 1 || i.length == 0) = true
      · rw [if_pos hc]
        have : repS i j = i := by
          rw [Bool.or_eq_true] at hc
          rcases hc with hc | hc
          · have : j = 1 := by simpa using hc
            subst this
            unfold repS
            apply Str.ext'
            simp
          · have h0 : i.cps.size = 0 := by have : i.length = 0 := by simpa using hc
                                           exact this
            have h0' : i.cps = #[] := Array.eq_empty_of_size_eq_zero h0
            unfold repS
            apply Str.ext'
            rw [h0']
            simp
        rw [this] at q
        exact ⟨.str i, H, I, ⟨_, rfl⟩, q⟩
      · rw [if_neg hc, ← e1]
        refine ⟨?_, ⟨.str (repS i j), H, I.tok _, ⟨_, rfl⟩, q⟩⟩
        have : (repS i j).length = i.length * j.toNat := by
          show (List.replicate j.toNat i.cps.toList).flatten.toArray.size = _
          rw [List.size_toArray, List.length_flatten, List.map_replicate, List.sum_replicate_nat, Array.length_toList, Nat.mul_comm]; rfl
        rw [this]; exact hz
noncomputable def mulX : D → D → Res D
  | .str a, .int k => guard (k < 2 ^ 60 ∧ -(2 ^ 60) < k ∧ a.length * k.toNat ≤ sizeLine) (.ok (.str (repS a k)))
  | x, y => mulD x y
def rMulY : R2 := fun x y H Q => rMulX x y H Q ∨ rMulS x y H Q
theorem or_mulX : OpR X (binaryOp .Mult) rMulY := or_mul.or op_mulS
theorem os_mulX : OpS c (mV c) rMulY mulX := by
  intro σ S H x y d e Q ex hx hy p
  unfold mulX at p
  split at p
  · cases hx.str; cases hy.int
    obtain ⟨⟨h1, h2, h3⟩, p⟩ := p.gd
    exact .inr ⟨_, _, rfl, rfl, h1, h2, h3, p.here ex (.str _)⟩
  · exact .inl (os_mul σ S H x y _ _ Q ex hx hy p)
variable {cpos : Pos}
noncomputable def insF (i : Nat) (fk f : Rho → Res D) : Rho → SR := fun r => liftS r (ownL i r) fun ds => liftS r (dCons fk (dCons f dNil) r) fun as => match as with
  | [.int k, d] => guardS (ds.length < sizeLine ∧ 0 ≤ k ∧ k < 2 ^ 62) (.nx (r.set i (some (.lst (ds.take k.toNat ++ [d] ++ ds.drop k.toNat)))))
  | _ => .bad
theorem ds_ins (i : Nat) {x : Str} {pn : Pos} {ek : Expr} {fk : Rho → Res D} (hg : Gok c G) (k : kd G i = .o) (ho : PE X (.Name x pn) (tVar i)) (hk : PE X ek (tV c G fk)) (he : PE X e (tV c G f))
    (hw : swapsWith (.Call (.Attribute (.Name x pn) "insert" apos) [ek, e] [] cpos) none pos.line X.env = pure false := by rfl)
    (hbase : attributeBase (.Name x pn) "insert" X.env (eval (.Name x pn) X.env) = eval (.Name x pn) X.env := by rfl)
    (hfew : ((backTo cpos (starEach [ek, e] X.env)).all (fun x => !x.1) && (backToKw cpos (keywordEach [] X.env)).all (fun x => x.1.isSome) && decide ([ek, e].length + ([] : List Keyword).length + (if ([] : List Keyword).isEmpty then 0 else 1) < 30)) = true := by rfl)
    (hline : (apos.endLine == cpos.line) = true := by rfl) (hs : starEach [ek, e] X.env = (false, eval ek X.env) :: starEach [e] X.env := by rfl) (hs2 : starEach [e] X.env = (false, eval e X.env) :: starEach [] X.env := by rfl) (hpl : (backTo cpos (starEach [e] X.env)).any (·.1) = false := by rfl) :
    PS X (.Expr (.Call (.Attribute (.Name x pn) "insert" apos) [ek, e] [] cpos) pos) (sD c L G G (insF i fk f)) :=
  ps_imp (ps_expr (pe_bm PySem.F.plainAttrs_list PySem.F.slot_list_insert PySem.F.type_list_insert mt_insert ho (da_cons hk (da_cons he da_nil hs2) hs) hbase hfew hline hs hpl) hw) fun E σ H ⟨S0, H0, S, r, ok, p⟩ => by
    obtain ⟨q, xs, ds, hd, z1, z2, z3, p1⟩ := of_ownL ok k p
    refine ⟨.ref q, z1, .inl ⟨rfl, xs, .inl (.inl z2)⟩, st_seq hg ok p1 fun as vs S1 H1 w1 o1 m1 p2 => ?_⟩
    split at p2
    · rename_i kk d
      match vs, m1 with
      | _, .cons h1 (.cons h2 .nil) =>
        cases h1
        obtain ⟨⟨hl, h0, h3⟩, p2⟩ := p2.gd
        refine ⟨q, xs, kk, _, rfl, rfl, w1.h _ _ z2, by rw [z3.length]; exact hl, h0, by omega, p2 σ S1 _ (o1.mut k hd z1 (.lst ?_))⟩
        have z4 := z3.mono w1.s
        exact ((z4.take _).app (.one h2)).app (z4.drop _)
    · exact p2.elim
end
end Dx
end S_DxZ
section S_DxO
set_option Elab.async false
set_option linter.all false
set_option maxRecDepth 100000
set_option maxHeartbeats 2000000
namespace Dx
open PySem L2 ItX
open PyProof.Rows hiding St
section
variable {X : Cx} {k : Nat} {fa C : Addr} {fd : FuncData} {ps : List Str} {sp : Sp} {pins : List (Addr × Obj)} {σ : St} {H : Hp} {s : Shared} {Q : VK} {us : List Value} {vs : List V}
abbrev noX : XK := fun _ _ _ => False
/-- a def runs below, and raises nothing -/
theorem run_ce {A : Around} {R : Value → Shared → Prop} {E' : Value → Shared → Prop} (F1 : FnOk X.prog X.w X.K X.mg X.base (L2N.CX X.prog X.w) k fa fd ps sp) (hr : Room k A) (e0 : Env0 X.prog X.w X.K X.mg X.base A X.stack s H) (hb : L2.Binds X.K fd ps []) (hK : X.K.In s.heap) (r : Vals vs us) (h : sp vs H Q noX)
    (fin : ∀ u s', CE X.stack X.prog X.w H s Q u s' → R u s') : wpAny (model X.prog X.w) A (call (.ref fa) us) R E' s := by
  have hl : (us ++ []).length = ps.length := by rw [List.append_nil, ← r.length]; exact F1.len _ _ _ _ h
  have hb2 := hb s us hK hl
  rw [List.append_nil] at hb2
  refine wpAny_call (codeAny_mono (F1.run A X.stack s H ⟨us, []⟩ us vs Q noX hr e0 hb2 r h) fun r s' hq => ?_)
  cases r with
  | error e => exact (cx_never hq).elim
  | ok fl =>
    cases fl with
    | ret u => exact fin u s' hq
    | next => exact False.elim hq
    | brk => exact False.elim hq
    | cont => exact False.elim hq
theorem run_calm {A : Around} {E' : Value → Shared → Prop} (F1 : FnOk X.prog X.w X.K X.mg X.base (L2N.CX X.prog X.w) k fa fd ps sp) (hr : Room k A) (e0 : Env0 X.prog X.w X.K X.mg X.base A X.stack s H) (hb : L2.Binds X.K fd ps []) (I : Inv X pins σ H s) (r : Vals vs us) (h : sp vs H Q noX) :
    wpAny (model X.prog X.w) A (call (.ref fa) us) (EP X pins σ Q) E' s := run_ce F1 hr e0 hb I.kIn r h fun u s' hq => I.after hq
theorem ins_at {a dx : Addr} {fs : List (Str × V)} (I : Inv X pins σ H s) (h : H a = some (.ins C dx fs)) : ∃ ox od, PySem.W.InstAt s.heap a ox C od ∧ ox.data = .plain := by
  obtain ⟨mA, O, _⟩ := ins_get I.hok h
  obtain ⟨od, J, _⟩ := O.look
  exact ⟨_, _, J, rfl⟩
def rLenO (C : Addr) (sp : Sp) : List V → Hp → VK → Prop := fun xs H Q => ∃ a dx fs, xs = [V.ref a] ∧ H a = some (.ins C dx fs) ∧ sp [.ref a] H (fun z H' => ∃ i : Int, z = .int i ∧ 0 ≤ i ∧ i < 2 ^ 63 ∧ Q z H') noX
theorem call_lenO (hm : L2.Meth X.K C "__len__" fa) (F1 : FnOk X.prog X.w X.K X.mg X.base (L2N.CX X.prog X.w) k fa fd ps sp) (hr : Room (k + 1) X.A) (hb : L2.Binds X.K fd ps []) : CallR X (.builtin "len") (rLenO C sp) := by
  intro pins s σ H xs us Q I r h
  obtain ⟨a, dx, fs, rfl, ha, q⟩ := h
  obtain ⟨u, rfl, ru⟩ := r.one
  cases ru
  obtain ⟨ox, od, J, _⟩ := ins_at I ha
  obtain ⟨m, hF⟩ := I.fr
  refine PySem.W.len_K hF I.ok.mod.kin J hm.at_ hm.fn (wpAny_mono (run_calm (us := [.ref a]) (vs := [.ref a]) F1 hr.in1 I.env0.in1 hb I (.cons rfl .nil) q) (fun w s' z => ?_) fun _ _ x => x)
  obtain ⟨z', H', I', rz, i, rfl, h0, h1, qz⟩ := z
  obtain ⟨t, rfl⟩ := rz
  exact ⟨⟨h0, h1⟩, .int i, H', I'.tok _, ⟨_, rfl⟩, qz⟩
/-- o op p, both of the class -/
def rCmpO (C : Addr) (sp : Sp) : R2 := fun x y H Q => ∃ a dx fs b dy gs, x = V.ref a ∧ y = V.ref b ∧ H a = some (.ins C dx fs) ∧ H b = some (.ins C dy gs) ∧ sp [.ref a, .ref b] H Q noX
theorem op_binO {op : Operator} (hc : PySem.W.selfFirst X.K C = true) (hm : L2.Meth X.K C (PySem.dunder op.info.2) fa) (F1 : FnOk X.prog X.w X.K X.mg X.base (L2N.CX X.prog X.w) k fa fd ps sp) (hr : Room k X.A) (hb : L2.Binds X.K fd ps []) : OpR X (binaryOp op) (rCmpO C sp) := by
  intro pins s σ H x y v u Q I rx ry h
  obtain ⟨a, dx, fs, b, dy, gs, rfl, rfl, ha, hb', q⟩ := h
  cases rx
  cases ry
  obtain ⟨ox, od, J, _⟩ := ins_at I ha
  obtain ⟨ox', od', J', _⟩ := ins_at I hb'
  obtain ⟨m, hF⟩ := I.fr
  refine PySem.W.binop_K (op := op) hF I.ok.mod.kin J J'.type hc hm.at_ hm.fn (wpAny_mono (run_calm (us := [.ref a, .ref b]) (vs := [.ref a, .ref b]) F1 hr I.env0 hb I (.cons rfl (.cons rfl .nil)) q) (fun w s' z => ?_) fun _ _ x => x)
  obtain ⟨z', H', I', rz, qz⟩ := z
  exact SlX.cmpback rz ⟨z', H', I', rz, qz⟩
end
section
variable {X : Cx} {c : Cf} {L G G' : List Ow} {f f1 : Rho → Res D} {e o : Expr} {es : List Expr} {pos apos p : Pos} {fs : Rho → Res (List D)} {n : Str} {C : Addr} {F : List D → Res D} {ms : List Bool} {rm : Bool} {k : Nat} {fa : Addr} {fd : FuncData} {ps : List Str}
theorem calm_sp {S H : Hp} {vs : List V} {ds : List D} {Q : VK} {a : D} (ex : Ex S H) (m : RpM c S H ms vs ds) (hF : F ds = .ok a) (q : ∀ S' H' b, Fwd S H S' H' → mR c rm H S' H' b a → Q b H') : spD c.K c.cm ms rm F vs H Q noX := by
  refine call_rd (c := ⟨c.K, c.cm, fun _ _ _ _ => False, none, rm, fun _ _ => False⟩) (σ := []) (fun _ _ _ h => h) ex (RpM.cf (c := c) (c' := ⟨c.K, c.cm, fun _ _ _ _ => False, none, rm, fun _ _ => False⟩) rfl rfl m) ?_
  rw [hF]
  exact fun S' H' w b hb => q S' H' b w (by cases rm <;> exact hb)
/-- an object of the class n -/
def isCls (n : Str) : D → Bool
  | .obj c _ _ => decide (c = n)
  | _ => false
theorem of_isCls {S H : Hp} {v : V} {d : D} (ex : Ex S H) (hcn : c.cm n = some C) (h : isCls n d = true) (m : RpB c.K c.cm S H v d) : ∃ a dx fs, v = .ref a ∧ H a = some (.ins C dx fs) := by
  cases d with
  | obj c' ns vs =>
    have hc : c' = n := of_decide_eq_true h
    subst hc
    obtain ⟨q, C', dx, fs, rfl, h1, h2, _, _⟩ := RpB.obj m ex
    rw [hcn] at h1; cases h1
    exact ⟨q, dx, fs, rfl, h2⟩
  | _ => cases h
noncomputable def lenO (n : Str) (F : List D → Res D) (d : D) : Res D := if isCls n d = true then (match F [d] with
  | .ok (.int i) => guard (0 ≤ i ∧ i < 2 ^ 63) (.ok (.int i))
  | _ => .bad) else .bad
theorem cs_lenO (hcn : c.cm n = some C) : CallS c (mV c) (rLenO C (spD c.K c.cm [true] false F)) [true] (g1 (lenO n F)) := by
  intro σ S H vs ds Q ex m p
  obtain ⟨v, d, rfl, rfl, h⟩ := m.one
  have p : PostG c σ S H (lenO n F d) _ := p
  unfold lenO at p
  split at p
  · rename_i hc
    obtain ⟨a, dx, gs, rfl, h2⟩ := of_isCls ex hcn hc h
    split at p
    · rename_i i hF
      obtain ⟨⟨h0, h1⟩, p⟩ := p.gd
      exact ⟨a, dx, gs, rfl, h2, calm_sp (ds := [d]) ex ⟨h, trivial⟩ hF fun S' H' b w hb => by
        have hb : Rp c.K c.cm S' b (.int i) := hb
        cases hb
        exact ⟨i, rfl, h0, h1, p S' H' w _ (.int i)⟩⟩
    · exact p.elim
  · exact p.elim
def binO (n : Str) (F : List D → Res D) (x d : D) : Res D := if isCls n x = true ∧ isCls n d = true then (match F [x, d] with
  | .ok a => .ok a
  | _ => .bad) else .bad
theorem os_binO (hcn : c.cm n = some C) : OpS c (mR c rm) (rCmpO C (spD c.K c.cm [true, true] rm F)) (binO n F) := by
  intro σ S H x y d e Q ex hx hy p
  unfold binO at p
  split at p
  · rename_i hc
    obtain ⟨a, dx, gs, rfl, h2⟩ := of_isCls ex hcn hc.1 hx
    obtain ⟨b, dy, gs', rfl, h3⟩ := of_isCls ex hcn hc.2 hy
    split at p
    · rename_i r hF
      exact ⟨a, dx, gs, b, dy, gs', rfl, rfl, h2, h3, calm_sp (ds := [d, e]) ex ⟨hx, hy, trivial⟩ hF fun S' H' v w hb => p S' H' w v hb⟩
    · exact p.elim
  · exact p.elim
def dStar (f : Rho → Res D) (fs : Rho → Res (List D)) : Rho → Res (List D) := fun r => (f r).bind fun d => (items d).bind fun xs => (fs r).bind fun ys => .ok (xs ++ ys)
def zipL : List D → Res (List D)
  | [.lst x, .lst y] => .ok (pairs x y)
  | _ => .bad
end
/-- what such an __iter__ gives: a new iterator of the list -/
def ItOk (P : Program) (w : World) (K : PySem.W.Frag) (mg : Str → Option Value) (base : Heap) (k : Nat) (f : Addr) (C : Addr) (fl : Str) : Prop :=
  ∀ (A : Around) (outer : List Env) (s : Shared) (H : Hp) (a dx l : Addr) (fs : List (Str × V)) (xs : List V) (Q : VK), Room k A → Env0 P w K mg base A outer s H → H a = some (.ins C dx fs) → fs.lookup fl = some (.ref l) → SqL K H l xs →
    (∀ it, H it = none → s.heap.objs.size ≤ it → Q (.ref it) (upd H it (ItO l it 0))) → codeAny (model P w) A (.call (.ref f) ⟨[.ref a], []⟩) (CR (L2N.CX P w) outer P w H s Q noX) s
theorem iter_ok {P : Program} {w : World} {K : PySem.W.Frag} {mg : Str → Option Value} {base : Heap} {qual : Str} {st : Stmt} {fI C : Addr} {fd : FuncData} {N ps : List Str} {fl : Str} (F : Fun K "__iter__" qual st fI fd) (S : FnScope N ps (defScope st)) (hl : ps.length = 1) (hN : N.length = 1) (cl : Cls K C) (na : NoAttr K C fl) (bi : L2.Binds K fd ps [])
    (hb : ∀ (cdv : Value) (A : Around) (outer : List Env) (s : Shared) (H : Hp) (E : XK), PSs (cxOf (L2N.CX P w) P w K mg base N qual (defScope st) fI cdv A outer s H E) (defBody st) (tRet (tCB (ItX.rIterN K s.heap.objs.size) (tCons (tFld K (tVar 0) fl) tNil)))) :
    ItOk P w K mg base 1 fI C fl := by
  intro A outer s H a dx l fs xs Q hr e0 ha hf hq q
  obtain ⟨oc, od, kV, doc, pm, an, cd, ct, osl, rfl, lk, hcd⟩ := F.ex
  have inK : K.In s.heap := e0.mod.kin.keeps fun z o e => (e0.bs z o e).1
  have nl : s.heap.NoLimit := e0.mod.nolimit.keeps fun z o e => (e0.bs z o e).1
  have bnd := bi s [Value.ref a] inK (by rw [List.append_nil]; exact hl.symm)
  rw [List.append_nil] at bnd
  have kinds : ∀ y ∈ ps.zip [Value.ref a], (defScope st).names.lookup y.1 = some .local ∨ ((defScope st).names.lookup y.1 = some .cell ∧ ((cellsFrom (s.heap.objs.size + 1) (defScope st).names []).lookup y.1).isSome = true) := by
    rintro ⟨n, v⟩ hy
    rcases S.par n (List.of_mem_zip hy).1 with z | z
    · exact .inl z
    · exact .inr ⟨z, PySem.W.cellsFrom_some _ _ _ (.inl z)⟩
  refine codeAny_call_function hr.depth (inK _ _ lk) rfl S.co S.gen rfl (PySem.W.codeRec_of inK hcd) (bnd _ _ _ _ (wpAny_newFunctionEnv_cells S.kind kinds fun env he s1 ic => ?_))
  subst he
  refine ⟨nl.keeps ic.toInCall.keep, codeAny_func ?_⟩
  have J0 : Inv (cxOf (L2N.CX P w) P w K mg base N qual (defScope st) fI cd A outer s H noX) [] (L2.start N [V.ref a]) H s1 := inv_start S hr.hd e0 hl.symm (.cons rfl .nil) ic
  have es : L2.start N [V.ref a] = [some (.ref a)] := by unfold L2.start; rw [hN]; rfl
  have goal : tRet (tCB (ItX.rIterN K s.heap.objs.size) (tCons (tFld K (tVar 0) fl) tNil)) { nx := fun _ H' => Q .non H', rt := Q } (L2.start N [V.ref a]) H := by
    rw [es]
    exact ⟨.ref a, rfl, a, C, dx, fs, .ref l, rfl, ha, cl, na, hf, l, xs, rfl, hq, q⟩
  refine wpAny_mono ((hb cd A outer s H noX).run [] s1 _ H _ J0 goal) (fun fl s' z => ?_) fun e s' z => z
  cases fl with
  | ret u =>
    obtain ⟨v, σ', H', J, rv, z⟩ := z
    exact ⟨v, H', J.os, J.bare, J.base, J.hok, rv, z⟩
  | next =>
    obtain ⟨σ', H', J, z⟩ := z
    exact ⟨V.non, H', J.os, J.bare, J.base, J.hok, rfl, z⟩
  | brk => obtain ⟨_, _, _, z⟩ := z; exact z.elim
  | cont => obtain ⟨_, _, _, z⟩ := z; exact z.elim
section
variable {X : Cx} {k : Nat} {fa C : Addr} {pins : List (Addr × Obj)} {σ : St} {H : Hp} {s : Shared} {fl : Str}
/-- the call of __iter__: a new iterator of the list -/
theorem run_it {A : Around} {E' : Value → Shared → Prop} {a dx l : Addr} {fs : List (Str × V)} {xs : List V} (F1 : ItOk X.prog X.w X.K X.mg X.base k fa C fl) (hr : Room k A) (e0 : Env0 X.prog X.w X.K X.mg X.base A X.stack s H) (I : Inv X pins σ H s)
    (ha : H a = some (.ins C dx fs)) (hf : fs.lookup fl = some (.ref l)) (hq : SqL X.K H l xs) :
    wpAny (model X.prog X.w) A (call (.ref fa) [.ref a]) (fun u s' => ∃ it, u = .ref it ∧ s.heap.objs.size ≤ it ∧ H it = none ∧ Inv X pins σ (upd H it (ItO l it 0)) s') E' s := by
  refine wpAny_call (codeAny_mono (F1 A X.stack s H a dx l fs xs (fun v H' => ∃ it, v = .ref it ∧ H it = none ∧ s.heap.objs.size ≤ it ∧ H' = upd H it (ItO l it 0)) hr e0 ha hf hq fun it hit hs => ⟨it, rfl, hit, hs, rfl⟩) fun r s' hr => ?_)
  cases r with
  | error e => exact (cx_never hr).elim
  | ok fl =>
    cases fl with
    | ret u =>
      obtain ⟨v2, H2, I2, r2, it, rfl, h2, h3, rfl⟩ := I.after hr
      cases r2
      exact ⟨it, rfl, h3, h2, I2⟩
    | next => exact False.elim hr
    | brk => exact False.elim hr
    | cont => exact False.elim hr
theorem it_next {A : Around} {Q : Value → Shared → Prop} {E : Value → Shared → Prop} {l it : Addr} (I : Inv X pins σ H s) (h : H it = some (ItO l it 0)) (q : Q (.ref it) s) : PySem.W.OwitIt (model X.prog X.w) A Q E (.ref it) s := by
  have eo := itO_get I h
  unfold PySem.W.OwitIt
  exact wpAny_specialOf (T := "list_iterator") ⟨_, eo, rfl⟩ slot_listiter_next.lookup q
end
section
variable {X : Cx} {c : Cf} {G : List Ow} {f : Rho → Res D} {e : Expr} {n fl : Str} {C fa : Addr} {fd : FuncData} {ps : List Str} {k : Nat} {tg : Expr}
def iOwn (K : PySem.W.Frag) (C : Addr) (fl : Str) (te : TE) : TI := fun σ H R => te σ H fun x H1 => ∃ a dx fs l xs, x = V.ref a ∧ H1 a = some (.ins C dx fs) ∧ fs.lookup fl = some (.ref l) ∧ SqL K H1 l xs ∧ R (Itl K l) H1
theorem itlF0 (K : PySem.W.Frag) (a : Addr) : ItlF K a 0 = Itl K a := by
  unfold ItlF
  simp only [Nat.zero_add]
theorem pi_own {te : TE} (hm : L2.Meth X.K C "__iter__" fa) (F1 : ItOk X.prog X.w X.K X.mg X.base k fa C fl) (hr : Room k X.A) (he : PE X e te) : PI X tg e (iOwn X.K C fl te) := by
  refine ⟨fun pins s σ H R I h => ?_⟩
  refine thn (he.run pins s σ H _ I h) fun v s1 ⟨x, H1, I1, r1, a, dx, fs, l, xs, ex, ha, hf, hq, q⟩ => ?_
  subst ex
  cases r1
  obtain ⟨ox, od, J, _⟩ := ins_at I1 ha
  obtain ⟨m, hF⟩ := I1.fr
  refine PySem.W.owit_iter hF I1.ok.mod.kin J hm.at_ hm.fn (wpAny_mono (run_it F1 hr I1.env0 I1 ha hf hq) (fun u s2 z => ?_) fun _ _ z => z)
  obtain ⟨it, rfl, hsz, hit, I2⟩ := z
  have hi : upd H1 it (ItO l it 0) it = some (ItO l it 0) := upd_same
  have eo := itO_get I2 hi
  have st : s2.heap.IsListIter it l (0 + 0) := ⟨_, eo, rfl, rfl⟩
  refine it_next I2 hi ?_
  have hi' := hi
  unfold ItO at hi'
  refine ⟨it, [it], _, _, dropH (upd H1 it (ItO l it 0)) it, rfl, inv_drop I2 hi', turn_listF l it 0, st, fun b hb => ?_, ?_⟩
  · have e : b = it := by simpa using hb
    rw [e]
    exact inv_fp I2 hi (Nat.le_trans I1.sz hsz)
  · rw [dropH_upd hit, itlF0]
    exact q
/-- an object of the class n: the items of its list fl -/
def itO (n fl : Str) : D → Res (List D)
  | .obj c ns vs => if c = n then (match lookF ns vs fl with
    | some (.lst ds) => .ok ds
    | _ => .bad) else .bad
  | _ => .bad
theorem of_itO {S H : Hp} {v : V} {d : D} {ds : List D} (ex : Ex S H) (hcn : c.cm n = some C) (h : itO n fl d = .ok ds) (m : RpB c.K c.cm S H v d) : ∃ a dx fs l xs, v = .ref a ∧ H a = some (.ins C dx fs) ∧ fs.lookup fl = some (.ref l) ∧ S l = some (.lst xs) ∧ RpA c.K c.cm S xs ds := by
  cases d with
  | obj c' ns vs =>
    unfold itO at h
    dsimp only at h
    split at h
    · rename_i hc
      subst hc
      split at h
      · rename_i ds' hd
        cases h
        obtain ⟨q, C', dx, fs, rfl, h1, h2, rfl, h4⟩ := RpB.obj m ex
        rw [hcn] at h1; cases h1
        obtain ⟨v', hv, hr⟩ := look_rp h4 hd
        cases hr with
        | @lst l xs _ a1 a2 => exact ⟨q, dx, fs, l, xs, rfl, h2, hv, a1, a2⟩
      · cases h
    · cases h
  | _ => cases h
theorem di_own (hcn : c.cm n = some C) (hm : L2.Meth X.K C "__iter__" fa) (F1 : ItOk X.prog X.w X.K X.mg X.base k fa C fl) (hr : Room k X.A) (he : PE X e (tR c G f)) (hK : c.K = X.K := by rfl) : PI X tg e (iD c G (dIt (itO n fl) f)) :=
  pi_imp (pi_own hm F1 hr he) fun σ H R ⟨S0, H0, S, r, ok, p⟩ => rd_seq ok p fun d v S1 H1 w1 o1 m1 p1 => by
    rw [← hK]
    cases hd : itO n fl d with
    | ok ds =>
      rw [hd] at p1
      obtain ⟨a, dx, fs, l, xs, rfl, h1, h2, h3, h4⟩ := of_itO o1.ex hcn hd m1
      exact ⟨a, dx, fs, l, xs, rfl, h1, h2, .inl (.inl (o1.ex _ _ h3)), p1.go o1.ex _ (gives_list (.inl (.inl h3)) h4)⟩
    | err _ _ _ => exfalso; unfold itO at hd; split at hd <;> (try split at hd) <;> (try split at hd) <;> cases hd
    | bad => rw [hd] at p1; exact p1.elim
end
end Dx
end S_DxO
section S_DxP
set_option Elab.async false
set_option linter.all false
set_option maxRecDepth 100000
set_option maxHeartbeats 2000000
namespace Dx
open PySem L2 ItX
open PyProof.Rows hiding St
end Dx
end S_DxP
section S_DxM
set_option Elab.async false
set_option linter.all false
set_option maxRecDepth 100000
namespace Dx
open PySem L2
def Rs {α : Type} (x : Res α) (Q : α → Prop) (E : Str → List Str → List D → Prop) : Prop := match x with
  | .ok a => Q a
  | .err n ns vs => E n ns vs
  | .bad => False
def nE : Str → List Str → List D → Prop := fun _ _ _ => False
def nE' : Rho → Str → List Str → List D → Prop := fun _ _ _ _ => False
def nR : Rho → Prop := fun _ => False
def Ss (o : SR) (N : Rho → Prop) (R : D → Prop) (B C : Rho → Prop) (E : Rho → Str → List Str → List D → Prop) : Prop := match o with
  | .nx r => N r
  | .rt d => R d
  | .bk r => B r
  | .ct r => C r
  | .er r n ns vs => E r n ns vs
  | .bad => False
section
variable {α β : Type} {Q Q' : α → Prop} {E E' : Str → List Str → List D → Prop}
theorem Rs.imp {x : Res α} (h : Rs x Q nE) (k : ∀ a, Q a → Q' a) : Rs x Q' E := by
  cases x with
  | ok a => exact k a h
  | err n ns vs => exact h.elim
  | bad => exact h.elim
theorem Rs.impE {x : Res α} (h : Rs x Q E) (k : ∀ a, Q a → Q' a) (l : ∀ n ns vs, E n ns vs → E' n ns vs) : Rs x Q' E' := by
  cases x with
  | ok a => exact k a h
  | err n ns vs => exact l _ _ _ h
  | bad => exact h.elim
theorem Rs.of {x : Res α} {a : α} (h : x = .ok a) (q : Q a) : Rs x Q E := by rw [h]; exact q
theorem Rs.ofE {x : Res α} {n : Str} {ns : List Str} {vs : List D} (h : x = .err n ns vs) (q : E n ns vs) : Rs x Q E := by rw [h]; exact q
theorem Rs.eq {x : Res α} {a : α} (h : Rs x (fun b => b = a) nE) : x = .ok a := by
  cases x with
  | ok b => exact congrArg _ h
  | err n ns vs => exact h.elim
  | bad => exact h.elim
theorem Rs.get {x : Res α} (h : Rs x Q nE) : ∃ a, x = .ok a ∧ Q a := by
  cases x with
  | ok a => exact ⟨a, rfl, h⟩
  | err n ns vs => exact h.elim
  | bad => exact h.elim
theorem Rs.errEq {x : Res α} {n : Str} {ns : List Str} {vs : List D} (h : Rs x (fun _ => False) fun a b c => a = n ∧ b = ns ∧ c = vs) : x = .err n ns vs := by
  cases x with
  | ok b => exact h.elim
  | err a b c => obtain ⟨rfl, rfl, rfl⟩ := h; rfl
  | bad => exact h.elim
theorem Rs.bind {x : Res β} {k : β → Res α} (h : Rs x (fun b => Rs (k b) Q E) E) : Rs (x.bind k) Q E := by
  cases x with
  | ok a => exact h
  | err n ns vs => exact h
  | bad => exact h
theorem rs_guard {p : Prop} {x : Res α} (h : p) (k : Rs x Q E) : Rs (guard p x) Q E := by rw [guard_pos h]; exact k
end
section
variable {Q : D → Prop} {E : Str → List Str → List D → Prop} {r : Rho} {f f1 f2 f3 : Rho → Res D} {fs : Rho → Res (List D)} {t u : Rho → Res Bool} {d : D} {i : Nat}
theorem rs_var (h : r[i]? = some (some d)) (q : Q d) : Rs (dVar i r) Q E := by unfold dVar; rw [h]; exact q
theorem rs_c (q : Q d) : Rs (dC d r) Q E := q
theorem rs_op {g : D → D → Res D} (h : Rs (f1 r) (fun a => Rs (f2 r) (fun b => Rs (g a b) Q E) E) E) : Rs (dOp g f1 f2 r) Q E := Rs.bind (h.impE (fun a q => Rs.bind q) fun _ _ _ z => z)
theorem rs_str {g : D → D → Res D} (h : Rs (f1 r) (fun a => Rs (asS a) (fun _ => Rs (f2 r) (fun b => Rs (g a b) Q E) E) E) E) : Rs (dStr g f1 f2 r) Q E := Rs.bind (h.impE (fun a q => Rs.bind (q.impE (fun _ q => Rs.bind q) fun _ _ _ z => z)) fun _ _ _ z => z)
theorem rs_asS {z : Str} {Q : Str → Prop} (q : Q z) : Rs (asS (.str z)) Q E := q
theorem rs_un {g : D → Res D} (h : Rs (f r) (fun a => Rs (g a) Q E) E) : Rs (dUn g f r) Q E := Rs.bind h
theorem rs_nil {Q : List D → Prop} (q : Q []) : Rs (dNil r) Q E := q
theorem rs_cons {Q : List D → Prop} (h : Rs (f r) (fun x => Rs (fs r) (fun xs => Q (x :: xs)) E) E) : Rs (dCons f fs r) Q E := Rs.bind (h.impE (fun a q => Rs.bind q) fun _ _ _ z => z)
theorem rs_call {g : List D → Res D} (h : Rs (fs r) (fun ds => Rs (g ds) Q E) E) : Rs (dCall g fs r) Q E := Rs.bind h
theorem rs_tup (h : Rs (fs r) (fun ds => ds.length ≤ sizeLine ∧ Q (.tup ds)) E) : Rs (dTup fs r) Q E := Rs.bind (h.impE (fun ds q => rs_guard q.1 q.2) fun _ _ _ z => z)
theorem rs_lst (h : Rs (fs r) (fun ds => ds.length ≤ sizeLine ∧ Q (.lst ds)) E) : Rs (dLst fs r) Q E := Rs.bind (h.impE (fun ds q => rs_guard q.1 q.2) fun _ _ _ z => z)
theorem rs_T {Q : Bool → Prop} (h : Rs (f r) (fun d => Rs (asB d) Q E) E) : Rs (dT f r) Q E := Rs.bind h
theorem rs_asB {b : Bool} {Q : Bool → Prop} (q : Q b) : Rs (asB (.bl b)) Q E := q
theorem rs_asI {b : Int} {Q : Int → Prop} (q : Q b) : Rs (asI (.int b)) Q E := q
theorem rs_not {Q : Bool → Prop} (h : Rs (t r) (fun b => Q (!b)) E) : Rs (dNot t r) Q E := Rs.bind h
theorem rs_and {Q : Bool → Prop} (h : Rs (t r) (fun a => Rs (u r) (fun b => Q (a && b)) nE) E) : Rs (dAnd t u r) Q E := Rs.bind (h.impE (fun a q => by
  cases a
  · obtain ⟨b, _, q⟩ := q.get
    exact q
  · exact q.impE (fun _ z => z) fun _ _ _ z => z.elim) fun _ _ _ z => z)
theorem rs_or {Q : Bool → Prop} (h : Rs (t r) (fun a => Rs (u r) (fun b => Q (a || b)) nE) E) : Rs (dOr t u r) Q E := Rs.bind (h.impE (fun a q => by
  cases a
  · exact q.impE (fun _ z => z) fun _ _ _ z => z.elim
  · obtain ⟨b, _, q⟩ := q.get
    exact q) fun _ _ _ z => z)
theorem rs_andc {Q : Bool → Prop} (h : Rs (t r) (fun a => (a = true → Rs (u r) Q E) ∧ (a = false → Q false)) E) : Rs (dAnd t u r) Q E := Rs.bind (h.impE (fun a q => by
  cases a
  · exact q.2 rfl
  · exact q.1 rfl) fun _ _ _ z => z)
theorem rs_orc {Q : Bool → Prop} (h : Rs (t r) (fun a => (a = true → Q true) ∧ (a = false → Rs (u r) Q E)) E) : Rs (dOr t u r) Q E := Rs.bind (h.impE (fun a q => by
  cases a
  · exact q.2 rfl
  · exact q.1 rfl) fun _ _ _ z => z)
theorem rs_andV (h : Rs (f1 r) (fun a => Rs (asB a) (fun a => Rs (f2 r) (fun b => Rs (asB b) (fun b => Q (.bl (a && b))) nE) nE) E) E) : Rs (dAndV f1 f2 r) Q E := Rs.bind (h.impE (fun a q => Rs.bind (q.impE (fun a q => by
  obtain ⟨b, e, q⟩ := q.get
  cases b with
  | bl b =>
    cases a
    · exact q
    · exact Rs.of e q
  | _ => exact q.elim) fun _ _ _ z => z)) fun _ _ _ z => z)
theorem rs_orV (h : Rs (f1 r) (fun a => Rs (asB a) (fun a => Rs (f2 r) (fun b => Rs (asB b) (fun b => Q (.bl (a || b))) nE) nE) E) E) : Rs (dOrV f1 f2 r) Q E := Rs.bind (h.impE (fun a q => Rs.bind (q.impE (fun a q => by
  obtain ⟨b, e, q⟩ := q.get
  cases b with
  | bl b =>
    cases a
    · exact Rs.of e q
    · exact q
  | _ => exact q.elim) fun _ _ _ z => z)) fun _ _ _ z => z)
theorem rs_andVc (h : Rs (f1 r) (fun a => Rs (asB a) (fun a => (a = true → Rs (f2 r) Q E) ∧ (a = false → Q (.bl false))) E) E) : Rs (dAndV f1 f2 r) Q E := Rs.bind (h.impE (fun a q => Rs.bind (q.impE (fun a q => by
  cases a
  · exact q.2 rfl
  · exact q.1 rfl) fun _ _ _ z => z)) fun _ _ _ z => z)
theorem rs_orVc (h : Rs (f1 r) (fun a => Rs (asB a) (fun a => (a = true → Q (.bl true)) ∧ (a = false → Rs (f2 r) Q E)) E) E) : Rs (dOrV f1 f2 r) Q E := Rs.bind (h.impE (fun a q => Rs.bind (q.impE (fun a q => by
  cases a
  · exact q.2 rfl
  · exact q.1 rfl) fun _ _ _ z => z)) fun _ _ _ z => z)
theorem rs_notV (h : Rs (f r) (fun a => Rs (asB a) (fun b => Q (.bl (!b))) E) E) : Rs (dNotV f r) Q E := Rs.bind (h.impE (fun a q => Rs.bind q) fun _ _ _ z => z)
theorem rs_ifx {α : Type} {Q : α → Prop} {f g : Rho → Res α} (h : Rs (t r) (fun b => (b = true → Rs (f r) Q E) ∧ (b = false → Rs (g r) Q E)) E) : Rs (dIf t f g r) Q E := Rs.bind (h.impE (fun a q => by
  cases a
  · exact q.2 rfl
  · exact q.1 rfl) fun _ _ _ z => z)
theorem rs_tru {Q : Bool → Prop} (h : Rs (f r) (fun d => Rs (truB d) Q E) E) : Rs (dTru f r) Q E := Rs.bind h
theorem rs_truB {b : Bool} {Q : Bool → Prop} (q : Q b) : Rs (truB (.bl b)) Q E := q
theorem rs_truI {b : Int} {Q : Bool → Prop} (q : Q (b != 0)) : Rs (truB (.int b)) Q E := q
theorem rs_truL {ds : List D} {Q : Bool → Prop} (q : Q (!ds.isEmpty)) : Rs (truB (.lst ds)) Q E := q
theorem rs_truT {ds : List D} {Q : Bool → Prop} (q : Q (!ds.isEmpty)) : Rs (truB (.tup ds)) Q E := q
theorem rs_truN {Q : Bool → Prop} (q : Q false) : Rs (truB .non) Q E := q
theorem rs_chain {g g' : D → D → Res D} (h : Rs (f1 r) (fun x => Rs (f2 r) (fun y => Rs (g x y) (fun z => Rs (asB z) (fun a => Rs (f3 r) (fun w => Rs (g' y w) (fun e => Rs (asB e) (fun b => Q (.bl (a && b))) nE) nE) nE) E) E) E) E) : Rs (dChain g g' f1 f2 f3 r) Q E :=
  Rs.bind (h.impE (fun x q => Rs.bind (q.impE (fun y q => Rs.bind (q.impE (fun z q => Rs.bind (q.impE (fun a q => by
    obtain ⟨w, e1, q⟩ := q.get
    obtain ⟨e, e2, q⟩ := q.get
    cases e with
    | bl b =>
      cases a
      · exact q
      · exact Rs.bind (Rs.of e1 (Rs.of e2 q))
    | _ => exact q.elim) fun _ _ _ z => z)) fun _ _ _ z => z)) fun _ _ _ z => z)) fun _ _ _ z => z)
theorem rs_noP {Q : Option Int → Prop} (q : Q none) : Rs (dNoP r) Q E := q
theorem rs_part {Q : Option Int → Prop} (h : Rs (f r) (fun d => Rs (asI d) (fun i => Q (some i)) E) E) : Rs (dPart f r) Q E := Rs.bind (h.impE (fun a q => Rs.bind q) fun _ _ _ z => z)
theorem rs_sl {g : D → Option Int → Option Int → Res D} {fl fh : Rho → Res (Option Int)} (h : Rs (f r) (fun d => Rs (fl r) (fun l => Rs (fh r) (fun k => Rs (g d l k) Q E) E) E) E) : Rs (dSl g f fl fh r) Q E := Rs.bind (h.impE (fun a q => Rs.bind (q.impE (fun _ q => Rs.bind q) fun _ _ _ z => z)) fun _ _ _ z => z)
theorem rs_it {g : D → Res (List D)} {Q : List D → Prop} (h : Rs (f r) (fun d => Rs (g d) Q E) E) : Rs (dIt g f r) Q E := Rs.bind h
theorem rs_its {g : List D → Res (List D)} {Q : List D → Prop} (h : Rs (fs r) (fun d => Rs (g d) Q E) E) : Rs (dIts g fs r) Q E := Rs.bind h
theorem rs_yes {Q : Bool → Prop} (q : Q true) : Rs (dYes r) Q E := q
theorem rs_meth {n m : Str} {F : List D → Res D} (h : Rs (f r) (fun x => Rs (isObj n m x) (fun _ => Rs (fs r) (fun ds => Rs (F (x :: ds)) Q E) E) E) E) : Rs (dMeth n m F f fs r) Q E := Rs.bind (h.impE (fun a q => Rs.bind (q.impE (fun _ q => Rs.bind q) fun _ _ _ z => z)) fun _ _ _ z => z)
theorem rs_isObj {n m : Str} {ns : List Str} {vs : List D} {Q : Unit → Prop} (h : m ∉ ns) (q : Q ()) : Rs (isObj n m (.obj n ns vs)) Q E := by
  show Rs (if n = n ∧ m ∉ ns then .ok () else .bad) Q E
  rw [if_pos ⟨rfl, h⟩]; exact q
theorem rs_fld {n fl : Str} {ns : List Str} {vs : List D} (h : lookF ns vs fl = some d) (q : Q d) : Rs (fldD n fl (.obj n ns vs)) Q E := by
  show Rs (if n = n then (match lookF ns vs fl with | some d => .ok d | none => .bad) else .bad) Q E
  rw [if_pos rfl, h]; exact q
end
abbrev Sg (l : List Nat) : Str := ⟨l.toArray⟩
theorem ST_len (l : List Nat) : (Sg l).length = l.length := by simp [Sg, Str.length]
theorem ST_app (a b : List Nat) : Sg a ++ Sg b = Sg (a ++ b) := TL.ext_tl (by rw [TL.tl_append])
theorem ST_inj {a b : List Nat} : Sg a = Sg b ↔ a = b := ⟨fun h => congrArg TL.tl h, fun h => by rw [h]⟩
theorem ST_dec (a b : List Nat) : decide (Sg a = Sg b) = decide (a = b) := by
  by_cases h : a = b
  · subst h; simp
  · simp [h, ST_inj]
section
variable {Q : D → Prop} {E : Str → List Str → List D → Prop} {i j : Int} {a b : List Nat} {ds es : List D} {d e : D}
theorem rs_add (q : Q (.int (i + j))) : Rs (addD (.int i) (.int j)) Q E := q
theorem rs_addS (h : a.length + b.length ≤ sizeLine) (q : Q (.str (Sg (a ++ b)))) : Rs (addD (.str (Sg a)) (.str (Sg b))) Q E := rs_guard (by rw [ST_len, ST_len]; exact h) (by rw [ST_app]; exact q)
theorem rs_addT (h : ds.length + es.length ≤ sizeLine) (q : Q (.tup (ds ++ es))) : Rs (addD (.tup ds) (.tup es)) Q E := rs_guard h q
theorem rs_addLL (h : ds.length + es.length ≤ sizeLine) (q : Q (.lst (ds ++ es))) : Rs (addD (.lst ds) (.lst es)) Q E := rs_guard h q
theorem rs_addLO (h : ds.length + es.length ≤ sizeLine) (q : Q (.lst (ds ++ es))) : Rs (addL (.lst ds) (.lst es)) Q E := rs_guard h q
theorem rs_sub (q : Q (.int (i - j))) : Rs (subD (.int i) (.int j)) Q E := q
theorem rs_neg (q : Q (.int (-i))) : Rs (negD (.int i)) Q E := q
theorem rs_mul (h : smallI i ∨ smallI j) (q : Q (.int (i * j))) : Rs (mulX (.int i) (.int j)) Q E := rs_guard h q
theorem rs_mulL (h : 0 ≤ j ∧ j < 2 ^ 60 ∧ ds.length * j.toNat ≤ sizeLine) (q : Q (.lst (List.replicate j.toNat ds).flatten)) : Rs (mulX (.lst ds) (.int j)) Q E := rs_guard h q
theorem rs_fdiv (h : 0 < j ∧ j < 4611686018427387904) (q : Q (.int (i / j))) : Rs (fdivD (.int i) (.int j)) Q E := by
  show Rs (if 0 < j then guard (j < 4611686018427387904) (.ok (.int (i / j))) else _) Q E
  rw [if_pos h.1]; exact rs_guard h.2 q
theorem rs_mod (h : 0 < j) (q : Q (.int (i % j))) : Rs (modD (.int i) (.int j)) Q E := rs_guard h q
theorem rs_eqI (q : Q (.bl (decide (i = j)))) : Rs (eqD (.int i) (.int j)) Q E := q
theorem rs_neI (q : Q (.bl (!decide (i = j)))) : Rs (neD (.int i) (.int j)) Q E := q
theorem rs_eqS (q : Q (.bl (decide (a = b)))) : Rs (eqD (.str (Sg a)) (.str (Sg b))) Q E := by
  show Q (.bl (decide (Sg a = Sg b)))
  rw [ST_dec]; exact q
theorem rs_neS (q : Q (.bl (!decide (a = b)))) : Rs (neD (.str (Sg a)) (.str (Sg b))) Q E := by
  show Q (.bl (!decide (Sg a = Sg b)))
  rw [ST_dec]; exact q
theorem rs_eqB {x y : Bool} (q : Q (.bl (decide (x = y)))) : Rs (eqD (.bl x) (.bl y)) Q E := q
theorem rs_neB {x y : Bool} (q : Q (.bl (!decide (x = y)))) : Rs (neD (.bl x) (.bl y)) Q E := q
theorem rs_lt (q : Q (.bl (decide (i < j)))) : Rs (ltD (.int i) (.int j)) Q E := q
theorem rs_le (q : Q (.bl (decide (i ≤ j)))) : Rs (leD (.int i) (.int j)) Q E := q
theorem rs_gt (q : Q (.bl (decide (j < i)))) : Rs (gtD (.int i) (.int j)) Q E := q
theorem rs_ge (q : Q (.bl (decide (j ≤ i)))) : Rs (geD (.int i) (.int j)) Q E := q
theorem rs_is (q : Q (.bl (isN d))) : Rs (isD false d .non) Q E := q
theorem rs_isn (q : Q (.bl (!isN d))) : Rs (isD true d .non) Q E := q
theorem rs_inS {n : Nat} (q : Q (.bl (decide (n ∈ b)))) : Rs (inD (.str (Sg [n])) (.str (Sg b))) Q E := q
theorem rs_ninS {n : Nat} (q : Q (.bl (!decide (n ∈ b)))) : Rs (ninD (.str (Sg [n])) (.str (Sg b))) Q E := q
theorem rs_lenS (h : a.length ≤ sizeLine) (q : Q (.int a.length)) : Rs (g1 lenD [.str (Sg a)]) Q E := rs_guard (by rw [ST_len]; exact h) (by show Q _; rw [ST_len]; exact q)
theorem rs_lenL (q : Q (.int ds.length)) : Rs (g1 lenD [.lst ds]) Q E := q
theorem rs_lenF (q : Q (.int ds.length)) : Rs (g1 lenD [.fz ds]) Q E := q
theorem rs_lenT (q : Q (.int ds.length)) : Rs (g1 lenD [.tup ds]) Q E := q
theorem rs_int (q : Q (.int i)) : Rs (g1 intD [.int i]) Q E := q
theorem rs_intB {x : Bool} (q : Q (.int (if x then 1 else 0))) : Rs (g1 intD [.bl x]) Q E := q
theorem rs_abs (q : Q (.int (if i < 0 then -i else i))) : Rs (g1 absD [.int i]) Q E := q
theorem rs_listL (q : Q (.lst ds)) : Rs (g1 listD [.lst ds]) Q E := q
theorem rs_listT (q : Q (.lst ds)) : Rs (g1 listD [.tup ds]) Q E := q
theorem rs_tupL (q : Q (.tup ds)) : Rs (g1 tupleD [.lst ds]) Q E := q
theorem rs_tupT (q : Q (.tup ds)) : Rs (g1 tupleD [.tup ds]) Q E := q
theorem rs_ixL (h : atI ds i = some d) (q : Q d) : Rs (ixD (.lst ds) (.int i)) Q E := by
  show Rs (match atI ds i with | some d => Res.ok d | none => Res.bad) Q E
  rw [h]; exact q
theorem rs_ixF (h : atI ds i = some d) (q : Q d) : Rs (ixD (.fz ds) (.int i)) Q E := by
  show Rs (match atI ds i with | some d => Res.ok d | none => Res.bad) Q E
  rw [h]; exact q
theorem rs_ixT (h : atI ds i = some d) (q : Q d) : Rs (ixD (.tup ds) (.int i)) Q E := by
  show Rs (match atI ds i with | some d => Res.ok d | none => Res.bad) Q E
  rw [h]; exact q
theorem rs_slL {lo hi : Option Int} (q : Q (.lst (cutL ds lo hi))) : Rs (slD (.lst ds) lo hi) Q E := q
theorem rs_slO {lo hi : Option Int} (q : Q (.lst (cutL ds lo hi))) : Rs (slL (.lst ds) lo hi) Q E := q
theorem rs_slT {lo hi : Option Int} (q : Q (.tup (cutL ds lo hi))) : Rs (slD (.tup ds) lo hi) Q E := q
theorem cutS_ST {lo hi : Option Int} : cutS (Sg a) lo hi = Sg (cutL a lo hi) := by
  unfold cutS cutL
  rw [ST_len]
theorem rs_slS {lo hi : Option Int} (h : a.length ≤ sizeLine) (q : Q (.str (Sg (cutL a lo hi)))) : Rs (slD (.str (Sg a)) lo hi) Q E := rs_guard (by rw [ST_len]; exact h) (by rw [cutS_ST]; exact q)
theorem rs_rng1 {n : Nat} {Q : List D → Prop} (h : n < 4611686018427387904) (q : Q (rngL 0 n)) : Rs (rng1 [.int (n : Int)]) Q E := rs_guard (by omega) (by rw [Int.toNat_natCast]; exact q)
theorem rs_itsL {Q : List D → Prop} (q : Q ds) : Rs (itemsL (.lst ds)) Q E := q
theorem rs_itsT {Q : List D → Prop} (q : Q ds) : Rs (itemsT (.tup ds)) Q E := q
theorem rs_itsS {Q : List D → Prop} (q : Q (a.map fun n => .str (Sg [n]))) : Rs (itemsS (.str (Sg a))) Q E := q
theorem rs_enL {Q : List D → Prop} (q : Q (numd 0 ds)) : Rs (enumL (.lst ds)) Q E := q
theorem rs_enT {Q : List D → Prop} (q : Q (numd 0 ds)) : Rs (enumT (.tup ds)) Q E := q
theorem rs_enS {Q : List D → Prop} (q : Q (numd 0 (a.map fun n => .str (Sg [n])))) : Rs (enumS (.str (Sg a))) Q E := q
theorem rs_isi {T n : String} {b : Bool} (h1 : tyN d = some n) (h2 : kitB n T = some b) (q : Q (.bl b)) : Rs (isiD T d) Q E := by unfold isiD; rw [h1]; dsimp only; rw [h2]; exact q
end
section
variable {N B C : Rho → Prop} {R : D → Prop} {E : Rho → Str → List Str → List D → Prop} {r : Rho} {f f1 f2 fi : Rho → Res D} {fs : Rho → Res (List D)} {t : Rho → Res Bool} {d : D} {F K : Rho → SR} {i j : Nat}
theorem Ss.imp {N' B' C' : Rho → Prop} {R' : D → Prop} {E' : Rho → Str → List Str → List D → Prop} {o : SR} (h : Ss o N R B C E) (hn : ∀ r, N r → N' r) (hr : ∀ d, R d → R' d) (hb : ∀ r, B r → B' r) (hc : ∀ r, C r → C' r) (he : ∀ r n ns vs, E r n ns vs → E' r n ns vs) : Ss o N' R' B' C' E' := by
  cases o with
  | nx r => exact hn _ h
  | rt d => exact hr _ h
  | bk r => exact hb _ h
  | ct r => exact hc _ h
  | er r n ns vs => exact he _ _ _ _ h
  | bad => exact h
theorem ss_nx (h : N r) : Ss (.nx r) N R B C E := h
theorem ss_bk (h : B r) : Ss (.bk r) N R B C E := h
theorem ss_ct (h : C r) : Ss (.ct r) N R B C E := h
theorem ss_lift {α : Type} {x : Res α} {k : α → SR} (h : Rs x (fun a => Ss (k a) N R B C E) (E r)) : Ss (liftS r x k) N R B C E := by
  cases x with
  | ok a => exact h
  | err n ns vs => exact h
  | bad => exact h
theorem ss_seq (h : Ss (F r) (fun r' => Ss (K r') N R B C E) R B C E) : Ss (seqF F K r) N R B C E := by
  unfold seqF
  cases e : F r with
  | nx r' => rw [e] at h; exact h
  | rt d => rw [e] at h; exact h
  | bk r => rw [e] at h; exact h
  | ct r => rw [e] at h; exact h
  | er r n ns vs => rw [e] at h; exact h
  | bad => rw [e] at h; exact h
theorem ss_set (h : Rs (f r) (fun d => N (r.set i (some d))) (E r)) : Ss (setF i f r) N R B C E := ss_lift h
theorem ss_ret (h : Rs (f r) R (E r)) : Ss (retF f r) N R B C E := ss_lift h
theorem ss_drop (h : Rs (f r) (fun _ => N r) (E r)) : Ss (dropF f r) N R B C E := ss_lift h
theorem ss_if (h : Rs (t r) (fun b => (b = true → Ss (F r) N R B C E) ∧ (b = false → Ss (K r) N R B C E)) (E r)) : Ss (ifF t F K r) N R B C E := ss_lift (h.impE (fun b q => by
  cases b
  · exact q.2 rfl
  · exact q.1 rfl) fun _ _ _ z => z)
theorem ss_app {ds : List D} (h1 : r[i]? = some (some (.lst ds))) (h : Rs (f r) (fun d => ds.length < sizeLine ∧ N (r.set i (some (.lst (ds ++ [d]))))) (E r)) : Ss (appF i f r) N R B C E := by
  unfold appF
  refine ss_lift (Rs.of (a := ds) (by unfold ownL; rw [h1]) (ss_lift (h.impE (fun d q => ?_) fun _ _ _ z => z)))
  rw [guardS_pos q.1]; exact q.2
theorem ss_asg {tg : D → Rho → Res Rho} (h : Rs (f r) (fun d => ∃ r', tg d r = .ok r' ∧ N r') (E r)) : Ss (asgF tg f r) N R B C E := ss_lift (h.impE (fun d q => by
  obtain ⟨r', e, q⟩ := q
  rw [e]; exact q) fun _ _ _ z => z)
theorem ss_par (h : Rs (f1 r) (fun d => Rs (f2 r) (fun e => N ((r.set i (some d)).set j (some e))) (E r)) (E r)) : Ss (parF i j f1 f2 r) N R B C E := ss_lift (rs_cons (h.impE (fun d q => rs_cons (q.impE (fun e q => rs_nil q) fun _ _ _ z => z)) fun _ _ _ z => z))
theorem ss_aug {g : D → D → Res D} (h : Rs (dVar i r) (fun x => Rs (f r) (fun y => Rs (g x y) (fun z => N (r.set i (some z))) (E r)) (E r)) (E r)) : Ss (augF i g f r) N R B C E := ss_lift (h.impE (fun x q => ss_lift (q.impE (fun y q => ss_lift q) fun _ _ _ z => z)) fun _ _ _ z => z)
theorem rs_ints {g : Int → Int → Int} {Q : D → Prop} {E : Str → List Str → List D → Prop} {i j : Int} (q : Q (.int (g i j))) : Rs (intsD g (.int i) (.int j)) Q E := q
theorem ss_raise {n : Str} {ns : List Str} {rev : Bool} (h : Rs (fs r) (fun ds => ds.length = ns.length ∧ E r n ns (if rev then ds.reverse else ds)) (E r)) : Ss (raiF n ns rev fs r) N R B C E := ss_lift (h.impE (fun ds q => by
  rw [if_pos q.1]; exact q.2) fun _ _ _ z => z)
theorem ss_sto {ds : List D} {k : Int} {n : Nat} (h : Rs (f r) (fun d => r[i]? = some (some (.lst ds)) ∧ Rs (fi r) (fun x => x = .int k ∧ ixN ds.length k = some n ∧ N (r.set i (some (.lst (ds.set n d))))) (E r)) (E r)) : Ss (stoF i fi f r) N R B C E := ss_lift (h.impE (fun d q => ss_lift (Rs.of (a := ds) (by unfold ownL; rw [q.1]) (ss_lift (q.2.impE (fun x q => by
  obtain ⟨rfl, h2, h3⟩ := q
  refine ss_lift ?_
  show Ss (match ixN ds.length k with | some j => SR.nx (r.set i (some (.lst (ds.set j d)))) | none => .bad) N R B C E
  rw [h2]; exact h3) fun _ _ _ z => z)))) fun _ _ _ z => z)
theorem ss_ins {ds : List D} (h : Rs (fi r) (fun k => Rs (f r) (fun d => r[i]? = some (some (.lst ds)) ∧ k = .int 0 ∧ ds.length < sizeLine ∧ N (r.set i (some (.lst (d :: ds))))) (E r)) (E r)) (h1 : r[i]? = some (some (.lst ds))) : Ss (insF i fi f r) N R B C E := ss_lift (Rs.of (a := ds) (by unfold ownL; rw [h1]) (ss_lift (rs_cons (h.impE (fun k q => rs_cons (q.impE (fun d q => rs_nil (by
  obtain ⟨_, rfl, h3, h4⟩ := q
  show Ss (guardS _ _) N R B C E
  rw [guardS_pos ⟨h3, by omega, by omega⟩]; exact h4)) fun _ _ _ z => z)) fun _ _ _ z => z))))
theorem ss_fst {n fl : Str} {ns : List Str} {vs : List D} (h : Rs (f r) (fun d => r[i]? = some (some (.obj n ns vs)) ∧ ns.length < 1000 ∧ N (r.set i (some (.obj n (putN fl d ns vs).1 (putN fl d ns vs).2)))) (E r)) : Ss (fstF i n fl f r) N R B C E := ss_lift (h.impE (fun d q => by
  rw [q.1]
  show Ss (if n = n ∧ ns.length < 1000 then _ else _) N R B C E
  rw [if_pos ⟨rfl, q.2.1⟩]; exact q.2.2) fun _ _ _ z => z)
theorem ss_cut {N' : Rho → Prop} {o : SR} (M : Rho → Prop) (h : Ss o M R B C E) (k : ∀ r, M r → N' r) : Ss o N' R B C E := h.imp k (fun _ z => z) (fun _ z => z) (fun _ z => z) fun _ _ _ _ z => z
theorem ss_loop {tg : D → Rho → Res Rho} (I : Nat → Rho → Prop) : ∀ (ds : List D) (k : Nat) (r : Rho), I k r →
    (∀ i d r, ds[i]? = some d → I (k + i) r → ∃ r1, tg d r = .ok r1 ∧ Ss (F r1) (I (k + i + 1)) R N (I (k + i + 1)) E) → (∀ r, I (k + ds.length) r → N r) → Ss (loopF tg F ds r) N R B C E
  | [], k, r, h0, _, he => he r h0
  | d :: ds, k, r, h0, hs, he => by
    obtain ⟨r1, e1, h1⟩ := hs 0 d r rfl h0
    have go : ∀ r2, I (k + 1) r2 → Ss (loopF tg F ds r2) N R B C E := fun r2 h2 => ss_loop I ds (k + 1) r2 h2 (fun i d r h hi => by
      have z := hs (i + 1) d r (by simpa using h) (by rw [show k + (i + 1) = k + 1 + i from by omega]; exact hi)
      rw [show k + (i + 1) = k + 1 + i from by omega] at z
      exact z) fun r h => he r (by rw [List.length_cons, show k + (ds.length + 1) = k + 1 + ds.length from by omega]; exact h)
    rw [loopF, e1]
    dsimp only
    cases e : F r1 with
    | nx r2 => rw [e] at h1; exact go r2 h1
    | ct r2 => rw [e] at h1; exact go r2 h1
    | bk r2 => rw [e] at h1; exact h1
    | rt d => rw [e] at h1; exact h1
    | er r n ns vs => rw [e] at h1; exact h1
    | bad => rw [e] at h1; exact h1
/-- a for, by an invariant at each number of items -/
theorem ss_for {its : Rho → Res (List D)} {tg : D → Rho → Res Rho} (I : Nat → Rho → Prop) (h : Rs (its r) (fun ds => I 0 r ∧ (∀ i d r, ds[i]? = some d → I i r → ∃ r1, tg d r = .ok r1 ∧ Ss (F r1) (I (i + 1)) R N (I (i + 1)) E) ∧ ∀ r, I ds.length r → N r) (E r)) : Ss (forF its tg F r) N R B C E :=
  ss_lift (h.impE (fun ds q => ss_loop I ds 0 r q.1 (fun i d r h1 h2 => by
    have z := q.2.1 i d r h1 (by rw [Nat.zero_add] at h2; exact h2)
    rw [Nat.zero_add]; exact z) fun r h => q.2.2 r (by rw [Nat.zero_add] at h; exact h)) fun _ _ _ z => z)
theorem rngL_get {a : Int} {n i : Nat} {d : D} (h : (rngL a n)[i]? = some d) : i < n ∧ d = .int (a + (i : Int)) := by
  unfold rngL at h
  rw [List.getElem?_map] at h
  by_cases hi : i < n
  · rw [List.getElem?_range hi] at h
    cases h
    exact ⟨hi, rfl⟩
  · rw [List.getElem?_eq_none (by simp; omega)] at h
    cases h
theorem rngL_len (a : Int) (n : Nat) : (rngL a n).length = n := by unfold rngL; simp
/-- for k in range(n) -/
theorem ss_rng {m : Nat} (n : Nat) (I : Nat → Rho → Prop) (h : Rs (f r) (fun d => d = .int (n : Int)) (E r)) (hn : n < 4611686018427387904) (h0 : I 0 r) (hs : ∀ i r, i < n → I i r → Ss (F (r.set m (some (.int (i : Int))))) (I (i + 1)) R N (I (i + 1)) E) (he : ∀ r, I n r → N r) : Ss (forF (dIts rng1 (dCons f dNil)) (tgN m) F r) N R B C E :=
  ss_for I (rs_its (rs_cons (h.impE (fun d q => by
    subst q
    refine rs_nil (rs_rng1 hn ⟨h0, fun i d r h1 h2 => ?_, fun r h => he r (by rw [rngL_len] at h; exact h)⟩)
    obtain ⟨h3, rfl⟩ := rngL_get h1
    exact ⟨_, rfl, by rw [Int.zero_add]; exact hs i r h3 h2⟩) fun _ _ _ z => z)))
/-- for x in xs -/
theorem ss_each {α : Type} {m : Nat} (g : α → D) (xs : List α) (I : Nat → Rho → Prop) (h : Rs (f r) (fun d => d = .lst (xs.map g)) (E r)) (h0 : I 0 r) (hs : ∀ i x r, xs[i]? = some x → I i r → Ss (F (r.set m (some (g x)))) (I (i + 1)) R N (I (i + 1)) E) (he : ∀ r, I xs.length r → N r) : Ss (forF (dIt itemsL f) (tgN m) F r) N R B C E :=
  ss_for I (rs_it (h.impE (fun d q => by
    subst q
    refine rs_itsL ⟨h0, fun i d r h1 h2 => ?_, fun r h => he r (by rw [List.length_map] at h; exact h)⟩
    rw [List.getElem?_map] at h1
    cases hx : xs[i]? with
    | none => rw [hx] at h1; cases h1
    | some x => rw [hx] at h1; cases h1; exact ⟨_, rfl, hs i x r hx h2⟩) fun _ _ _ z => z))
end
section
variable {Q : D → Prop} {E : Str → List Str → List D → Prop} {r : Rho} {f : Rho → Res D} {its : Rho → Res (List D)} {tg : D → Rho → Res Rho} {tt : Rho → Res Bool} {fe : Rho → Res D} {vs : List Nat}
theorem lc_mapX {α : Type} (c g : α → D) {rw : Rho} : ∀ xs : List α, (∀ x ∈ xs, ∃ r1, tg (c x) rw = .ok r1 ∧ tt r1 = .ok true ∧ Rs (fe r1) (fun e => e = g x) nE) → lcLoop tg tt fe rw (xs.map c) = .ok (xs.map g)
  | [], _ => rfl
  | x :: xs, h => by
    obtain ⟨r1, h1, h2, h3⟩ := h x (by simp)
    rw [List.map_cons, lcLoop, h1]
    dsimp only
    rw [h2]
    dsimp only
    rw [h3.eq]
    dsimp only
    rw [lc_mapX c g xs fun y hy => h y (by simp [hy])]
    rfl
theorem lc_fltX {α : Type} (c g : α → D) (p : α → Bool) {rw : Rho} : ∀ xs : List α, (∀ x ∈ xs, ∃ r1, tg (c x) rw = .ok r1 ∧ Rs (tt r1) (fun b => b = p x) nE ∧ (p x = true → Rs (fe r1) (fun e => e = g x) nE)) → lcLoop tg tt fe rw (xs.map c) = .ok ((xs.filter p).map g)
  | [], _ => rfl
  | x :: xs, h => by
    obtain ⟨r1, h1, h2, h3⟩ := h x (by simp)
    rw [List.map_cons, lcLoop, h1]
    dsimp only
    rw [h2.eq]
    cases e : p x with
    | true =>
      dsimp only
      rw [(h3 e).eq]
      dsimp only
      rw [lc_fltX c g p xs fun y hy => h y (by simp [hy]), List.filter_cons_of_pos e]
      rfl
    | false =>
      dsimp only
      rw [lc_fltX c g p xs fun y hy => h y (by simp [hy]), List.filter_cons_of_neg (by rw [e]; decide)]
theorem rs_lc {α : Type} (c g : α → D) (xs : List α) (hi : Rs (its r) (fun ds => ds = xs.map c) E) (hl : xs.length ≤ sizeLine) (hs : ∀ x ∈ xs, ∃ r1, tg (c x) (wipeR r vs) = .ok r1 ∧ tt r1 = .ok true ∧ Rs (fe r1) (fun e => e = g x) nE) (q : Q (.lst (xs.map g))) : Rs (dLc its tg tt fe vs r) Q E :=
  Rs.bind (hi.impE (fun ds e => by
    subst e
    refine rs_guard (by rw [List.length_map]; exact hl) ?_
    rw [lc_mapX c g xs hs]; exact q) fun _ _ _ z => z)
theorem rs_lcF {α : Type} (c g : α → D) (p : α → Bool) (xs : List α) (hi : Rs (its r) (fun ds => ds = xs.map c) E) (hl : xs.length ≤ sizeLine) (hs : ∀ x ∈ xs, ∃ r1, tg (c x) (wipeR r vs) = .ok r1 ∧ Rs (tt r1) (fun b => b = p x) nE ∧ (p x = true → Rs (fe r1) (fun e => e = g x) nE)) (q : Q (.lst ((xs.filter p).map g))) : Rs (dLc its tg tt fe vs r) Q E :=
  Rs.bind (hi.impE (fun ds e => by
    subst e
    refine rs_guard (by rw [List.length_map]; exact hl) ?_
    rw [lc_fltX c g p xs hs]; exact q) fun _ _ _ z => z)
theorem rs_run {n : Nat} {F : Rho → SR} {as : List D} (h : Ss (F (startR n as)) (fun _ => Q .non) Q nR nR (fun _ => E)) : Rs (runF n false F as) Q E := by
  unfold runF
  cases e : F (startR n as) with
  | nx r => rw [e] at h; exact h
  | rt d => rw [e] at h; exact h
  | bk r => rw [e] at h; exact h.elim
  | ct r => rw [e] at h; exact h.elim
  | er r n ns vs => rw [e] at h; exact h
  | bad => rw [e] at h; exact h.elim
theorem rs_runT {n : Nat} {F : Rho → SR} {as : List D} (h : Ss (F (startR n as)) nR Q nR nR (fun _ => E)) : Rs (runF n true F as) Q E := by
  unfold runF
  cases e : F (startR n as) with
  | nx r => rw [e] at h; exact h.elim
  | rt d => rw [e] at h; exact h
  | bk r => rw [e] at h; exact h.elim
  | ct r => rw [e] at h; exact h.elim
  | er r n ns vs => rw [e] at h; exact h
  | bad => rw [e] at h; exact h.elim
theorem rs_runI {n : Nat} {cls : Str} {F : Rho → SR} {as : List D} (h : Ss (F (startI n cls as)) (fun r => ∃ d, r[0]? = some (some d) ∧ Q d) (fun _ => False) nR nR (fun _ => E)) : Rs (runI n cls F as) Q E := by
  unfold runI
  cases e : F (startI n cls as) with
  | nx r => rw [e] at h; obtain ⟨d, h1, h2⟩ := h; dsimp only; rw [h1]; exact h2
  | rt d => rw [e] at h; exact h.elim
  | bk r => rw [e] at h; exact h.elim
  | ct r => rw [e] at h; exact h.elim
  | er r n ns vs => rw [e] at h; exact h
  | bad => rw [e] at h; exact h.elim
/-- a try -/
theorem ss_try {isM : Str → Option Bool} {i : Nat} {Fb Fs : Rho → SR} {N B C : Rho → Prop} {R : D → Prop} {E : Rho → Str → List Str → List D → Prop} (h : Ss (Fb r) N R B C fun r' n ns vs => isM n = some true ∧ Ss (Fs (r'.set i (some (.obj n ns vs)))) (fun r => N (r.set i none)) R (fun r => B (r.set i none)) (fun r => C (r.set i none)) nE') : Ss (tryF isM i Fb Fs r) N R B C E := by
  unfold tryF
  cases e : Fb r with
  | nx r => rw [e] at h; exact h
  | rt d => rw [e] at h; exact h
  | bk r => rw [e] at h; exact h
  | ct r => rw [e] at h; exact h
  | bad => rw [e] at h; exact h
  | er r' n ns vs =>
    rw [e] at h
    obtain ⟨h1, h2⟩ := h
    dsimp only
    rw [h1]
    dsimp only
    cases e2 : Fs (r'.set i (some (.obj n ns vs))) with
    | nx r => rw [e2] at h2; exact h2
    | rt d => rw [e2] at h2; exact h2
    | bk r => rw [e2] at h2; exact h2
    | ct r => rw [e2] at h2; exact h2
    | bad => rw [e2] at h2; exact h2
    | er r n ns vs => rw [e2] at h2; exact h2.elim
end
end Dx
namespace Dx
open PySem L2
theorem sz5 : (100000 : Nat) ≤ sizeLine := by decide
theorem small_of {i : Int} (h : -1000000000000 < i) (h' : i < 1000000000000) : smallI i := by unfold smallI; omega
def Fit : List Int → List Int → Prop
  | [], [] => True
  | v :: vs, l :: ls => 0 ≤ v ∧ v < l ∧ Fit vs ls
  | _, _ => False
theorem Fit.cons {vs : List Int} {l : Int} {ls : List Int} (h : Fit vs (l :: ls)) : ∃ v us, vs = v :: us ∧ 0 ≤ v ∧ v < l ∧ Fit us ls := by
  cases vs with
  | nil => exact h.elim
  | cons v us => exact ⟨v, us, rfl, h⟩
theorem Fit.nil {vs : List Int} (h : Fit vs []) : vs = [] := by
  cases vs with
  | nil => rfl
  | cons v us => exact h.elim
theorem Fit.len : ∀ {vs ls : List Int}, Fit vs ls → vs.length = ls.length
  | [], [], _ => rfl
  | v :: vs, l :: ls, h => by simp [Fit.len h.2.2]
  | [], _ :: _, h => h.elim
  | _ :: _, [], h => h.elim
theorem Fit.snoc : ∀ {vs ls : List Int} {v l : Int}, Fit vs ls → 0 ≤ v → v < l → Fit (vs ++ [v]) (ls ++ [l])
  | [], [], v, l, _, h1, h2 => ⟨h1, h2, trivial⟩
  | a :: vs, b :: ls, v, l, h, h1, h2 => ⟨h.1, h.2.1, Fit.snoc h.2.2 h1 h2⟩
  | [], _ :: _, _, _, h, _, _ => h.elim
  | _ :: _, [], _, _, h, _, _ => h.elim
theorem Fit.get : ∀ {vs ls : List Int} {k : Nat} {l : Int}, Fit vs ls → ls[k]? = some l → ∃ v, vs[k]? = some v ∧ 0 ≤ v ∧ v < l
  | [], [], _, _, _, h => by simp at h
  | v :: vs, l :: ls, 0, l', h, e => by simp at e; subst e; exact ⟨v, by simp, h.1, h.2.1⟩
  | v :: vs, l :: ls, k + 1, l', h, e => by
    obtain ⟨w, h1, h2⟩ := Fit.get (k := k) h.2.2 (by simpa using e)
    exact ⟨w, by simpa using h1, h2⟩
  | [], _ :: _, _, _, h, _ => h.elim
  | _ :: _, [], _, _, h, _ => h.elim
abbrev iL (ns : List Int) : D := .lst (ns.map D.int)
theorem take_snoc {α : Type} {xs : List α} {i : Nat} {x : α} (h : xs[i]? = some x) : xs.take (i + 1) = xs.take i ++ [x] := by
  rw [List.take_add_one, h]; rfl
end Dx
end S_DxM
section S_DxN
set_option Elab.async false
set_option linter.all false
set_option maxRecDepth 100000
namespace Dx
open PySem L2
def endB (a b : List Nat) : Bool := decide (b.length ≤ a.length) && decide (a.drop (a.length - b.length) = b)
def startB (a b : List Nat) : Bool := decide (b.length ≤ a.length) && decide (a.take b.length = b)
theorem beq_dec (a b : List Nat) : (a == b) = decide (a = b) := by
  by_cases h : a = b
  · subst h; simp
  · simp [h]
theorem end_ST (a b : List Nat) : Txt.endswith (Sg a) (Sg b) = endB a b := by
  unfold Txt.endswith endB
  rw [PySem.StrLaws.subAt_eq, ST_len, ST_len, Nat.zero_add]
  show (decide (b.length ≤ a.length) && ((a.drop (a.length - b.length)).take b.length == b)) = _
  by_cases h : b.length ≤ a.length
  · rw [List.take_of_length_le (by rw [List.length_drop]; omega), beq_dec]
  · rw [decide_eq_false h]; rfl
theorem start_ST (a b : List Nat) : Txt.startswith (Sg a) (Sg b) = startB a b := by
  unfold Txt.startswith startB
  rw [PySem.StrLaws.subAt_eq, ST_len, ST_len, Nat.zero_add]
  show (decide (b.length ≤ a.length) && ((a.drop 0).take b.length == b)) = _
  rw [List.drop_zero, beq_dec]
/-- split at one sign -/
abbrev spc (c : Nat) (a : List Nat) : List (List Nat) := TL.spl [c] 0 [] a
theorem split_ST (a : List Nat) (c : Nat) (hc : c < 256) : Txt.split (Sg a) (Sg [c]) = (spc c a).map Sg := by
  refine TL.map_tl_inj ?_
  rw [TL.split_spl _ _ (by show [c] ≠ []; simp) (TL.kind_ok (by show #[c].all _ = true; simp [hc])), List.map_map]
  show spc c a = _
  rw [show TL.tl ∘ Sg = id from rfl, List.map_id]
section
variable {Q : D → Prop} {E : Str → List Str → List D → Prop} {a b : List Nat}
theorem rs_end (q : Q (.bl (endB a b))) : Rs (endD (.str (Sg a)) (.str (Sg b))) Q E := by
  show Q (.bl (Txt.endswith (Sg a) (Sg b)))
  rw [end_ST]; exact q
theorem rs_start (q : Q (.bl (startB a b))) : Rs (startD (.str (Sg a)) (.str (Sg b))) Q E := by
  show Q (.bl (Txt.startswith (Sg a) (Sg b)))
  rw [start_ST]; exact q
theorem rs_split {c : Nat} (h : c < 256 ∧ a.length + 2 ≤ sizeLine) (q : Q (.lst ((spc c a).map fun l => .str (Sg l)))) : Rs (splitD (.str (Sg a)) (.str (Sg [c]))) Q E := by
  refine rs_guard ⟨rfl, by rw [ST_len]; exact h.2⟩ ?_
  show Q (.lst (strsD (Txt.split (Sg a) (Sg [c]))))
  rw [split_ST a c h.1]
  unfold strsD
  rw [List.map_map]; exact q
end
section
variable {Q : D → Prop} {E : Str → List Str → List D → Prop}
theorem rs_isi_non_bool  (q : Q (.bl false)) : Rs (isiD "bool" .non) Q E := rs_isi rfl (by decide +kernel) q
theorem rs_isi_non_int  (q : Q (.bl false)) : Rs (isiD "int" .non) Q E := rs_isi rfl (by decide +kernel) q
theorem rs_isi_non_str  (q : Q (.bl false)) : Rs (isiD "str" .non) Q E := rs_isi rfl (by decide +kernel) q
theorem rs_isi_non_tuple  (q : Q (.bl false)) : Rs (isiD "tuple" .non) Q E := rs_isi rfl (by decide +kernel) q
theorem rs_isi_non_list  (q : Q (.bl false)) : Rs (isiD "list" .non) Q E := rs_isi rfl (by decide +kernel) q
theorem rs_isi_bl_bool {x : Bool} (q : Q (.bl true)) : Rs (isiD "bool" (.bl x)) Q E := rs_isi rfl (by decide +kernel) q
theorem rs_isi_bl_int {x : Bool} (q : Q (.bl true)) : Rs (isiD "int" (.bl x)) Q E := rs_isi rfl (by decide +kernel) q
theorem rs_isi_bl_str {x : Bool} (q : Q (.bl false)) : Rs (isiD "str" (.bl x)) Q E := rs_isi rfl (by decide +kernel) q
theorem rs_isi_bl_tuple {x : Bool} (q : Q (.bl false)) : Rs (isiD "tuple" (.bl x)) Q E := rs_isi rfl (by decide +kernel) q
theorem rs_isi_bl_list {x : Bool} (q : Q (.bl false)) : Rs (isiD "list" (.bl x)) Q E := rs_isi rfl (by decide +kernel) q
theorem rs_isi_int_bool {x : Int} (q : Q (.bl false)) : Rs (isiD "bool" (.int x)) Q E := rs_isi rfl (by decide +kernel) q
theorem rs_isi_int_int {x : Int} (q : Q (.bl true)) : Rs (isiD "int" (.int x)) Q E := rs_isi rfl (by decide +kernel) q
theorem rs_isi_int_str {x : Int} (q : Q (.bl false)) : Rs (isiD "str" (.int x)) Q E := rs_isi rfl (by decide +kernel) q
theorem rs_isi_int_tuple {x : Int} (q : Q (.bl false)) : Rs (isiD "tuple" (.int x)) Q E := rs_isi rfl (by decide +kernel) q
theorem rs_isi_int_list {x : Int} (q : Q (.bl false)) : Rs (isiD "list" (.int x)) Q E := rs_isi rfl (by decide +kernel) q
theorem rs_isi_str_bool {x : Str} (q : Q (.bl false)) : Rs (isiD "bool" (.str x)) Q E := rs_isi rfl (by decide +kernel) q
theorem rs_isi_str_int {x : Str} (q : Q (.bl false)) : Rs (isiD "int" (.str x)) Q E := rs_isi rfl (by decide +kernel) q
theorem rs_isi_str_str {x : Str} (q : Q (.bl true)) : Rs (isiD "str" (.str x)) Q E := rs_isi rfl (by decide +kernel) q
theorem rs_isi_str_tuple {x : Str} (q : Q (.bl false)) : Rs (isiD "tuple" (.str x)) Q E := rs_isi rfl (by decide +kernel) q
theorem rs_isi_str_list {x : Str} (q : Q (.bl false)) : Rs (isiD "list" (.str x)) Q E := rs_isi rfl (by decide +kernel) q
theorem rs_isi_lst_bool {x : List D} (q : Q (.bl false)) : Rs (isiD "bool" (.lst x)) Q E := rs_isi rfl (by decide +kernel) q
theorem rs_isi_lst_int {x : List D} (q : Q (.bl false)) : Rs (isiD "int" (.lst x)) Q E := rs_isi rfl (by decide +kernel) q
theorem rs_isi_lst_str {x : List D} (q : Q (.bl false)) : Rs (isiD "str" (.lst x)) Q E := rs_isi rfl (by decide +kernel) q
theorem rs_isi_lst_tuple {x : List D} (q : Q (.bl false)) : Rs (isiD "tuple" (.lst x)) Q E := rs_isi rfl (by decide +kernel) q
theorem rs_isi_lst_list {x : List D} (q : Q (.bl true)) : Rs (isiD "list" (.lst x)) Q E := rs_isi rfl (by decide +kernel) q
theorem rs_isi_tup_bool {x : List D} (q : Q (.bl false)) : Rs (isiD "bool" (.tup x)) Q E := rs_isi rfl (by decide +kernel) q
theorem rs_isi_tup_int {x : List D} (q : Q (.bl false)) : Rs (isiD "int" (.tup x)) Q E := rs_isi rfl (by decide +kernel) q
theorem rs_isi_tup_str {x : List D} (q : Q (.bl false)) : Rs (isiD "str" (.tup x)) Q E := rs_isi rfl (by decide +kernel) q
theorem rs_isi_tup_tuple {x : List D} (q : Q (.bl true)) : Rs (isiD "tuple" (.tup x)) Q E := rs_isi rfl (by decide +kernel) q
theorem rs_isi_tup_list {x : List D} (q : Q (.bl false)) : Rs (isiD "list" (.tup x)) Q E := rs_isi rfl (by decide +kernel) q
end
theorem cut_take {α : Type} (a : List α) (k : Nat) : cutL a none (some (k : Int)) = a.take k := by
  unfold cutL
  rw [HT.sIx_none, HT.sIx_nat, List.drop_zero, Nat.sub_zero]
  by_cases h : k ≤ a.length
  · rw [Nat.min_eq_left h]
  · rw [Nat.min_eq_right (by omega), List.take_length, List.take_of_length_le (by omega)]
theorem cut_drop {α : Type} (a : List α) (k : Nat) : cutL a (some (k : Int)) none = a.drop k := by
  unfold cutL
  rw [HT.sIx_none, HT.sIx_nat]
  by_cases h : k ≤ a.length
  · rw [Nat.min_eq_left h, List.take_of_length_le (by rw [List.length_drop]; omega)]
  · rw [Nat.min_eq_right (by omega), Nat.sub_self, List.take_zero, List.drop_of_length_le (by omega)]
theorem cut_mid {α : Type} (a : List α) (j k : Nat) : cutL a (some (j : Int)) (some (k : Int)) = (a.take k).drop j := by
  unfold cutL
  rw [HT.sIx_nat, HT.sIx_nat, List.drop_take]
  by_cases h2 : j ≤ a.length
  · rw [Nat.min_eq_left h2]
    by_cases h : k ≤ a.length
    · rw [Nat.min_eq_left h]
    · rw [Nat.min_eq_right (by omega), List.take_of_length_le (by rw [List.length_drop]; omega), List.take_of_length_le (by rw [List.length_drop]; omega)]
  · rw [List.drop_of_length_le (show a.length ≤ j by omega), List.drop_of_length_le (by omega)]
    simp
end Dx
end S_DxN
section S_DxQ
set_option Elab.async false
set_option linter.all false
set_option maxRecDepth 100000
namespace Dx
open PySem L2
section
variable {Q : D → Prop} {E : Str → List Str → List D → Prop} {r : Rho} {f f1 : Rho → Res D} {fs : Rho → Res (List D)} {n fl gl : Str} {ns : List Str} {vs ds es : List D} {F : List D → Res D} {x d : D}
theorem rs_star {Q : List D → Prop} (h : Rs (f r) (fun d => Rs (items d) (fun xs => Rs (fs r) (fun ys => Q (xs ++ ys)) E) E) E) : Rs (dStar f fs r) Q E := Rs.bind (h.impE (fun a q => Rs.bind (q.impE (fun _ q => Rs.bind q) fun _ _ _ z => z)) fun _ _ _ z => z)
theorem rs_itemsL {Q : List D → Prop} (q : Q ds) : Rs (items (.lst ds)) Q E := q
theorem rs_itemsT {Q : List D → Prop} (q : Q ds) : Rs (items (.tup ds)) Q E := q
theorem rs_zipL {Q : List D → Prop} (q : Q (pairs ds es)) : Rs (zipL [.lst ds, .lst es]) Q E := q
theorem rs_zipS {a b : List Nat} {Q : List D → Prop} (q : Q (pairs (a.map fun n => .str (Sg [n])) (b.map fun n => .str (Sg [n])))) : Rs (zipS [.str (Sg a), .str (Sg b)]) Q E := q
theorem isCls_self : isCls n (.obj n ns vs) = true := by unfold isCls; exact decide_eq_true rfl
theorem rs_lenO {i : Int} (hF : F [.obj n ns vs] = .ok (.int i)) (hi : 0 ≤ i ∧ i < 2 ^ 63) (q : Q (.int i)) : Rs (g1 (lenO n F) [.obj n ns vs]) Q E := by
  show Rs (lenO n F (.obj n ns vs)) Q E
  unfold lenO
  rw [if_pos isCls_self, hF]
  exact rs_guard hi q
theorem rs_binO {ns' : List Str} {vs' : List D} (hF : F [.obj n ns vs, .obj n ns' vs'] = .ok d) (q : Q d) : Rs (binO n F (.obj n ns vs) (.obj n ns' vs')) Q E := by
  unfold binO
  rw [if_pos ⟨isCls_self, isCls_self⟩, hF]
  exact q
theorem rs_itO {Q : List D → Prop} (h1 : lookF ns vs fl = some (.lst ds)) (q : Q ds) : Rs (itO n fl (.obj n ns vs)) Q E := by
  show Rs (if n = n then (match lookF ns vs fl with
    | some (.lst ds) => .ok ds
    | _ => .bad) else .bad) Q E
  rw [if_pos rfl, h1]
  exact q
end
end Dx
end S_DxQ
section S_DxR
set_option Elab.async false
set_option linter.all false
set_option maxRecDepth 100000
set_option maxHeartbeats 2000000
namespace Dx
open PySem L2 ItX
open PyProof.Rows hiding St
def tyAll : List String := ["NoneType", "bool", "int", "str", "list", "tuple", "dict"]
structure IsC (K : PySem.W.Frag) (C : Addr) : Prop where
  cl : Cls K C
  ha : PySem.W.findIn K (.ref C) "__class__" = some (some (.builtin "object.__class__"))
  hn : PySem.W.specialIn K (.builtin "object.__class__") "__get__" = some (some (.builtin "getset_descriptor.__get__"))
  tk : PySem.W.takesIn K (.builtin "object.__class__") = some true
  hm : PySem.W.mroIn K C (.type "object") = some true
  self : PySem.W.kitOne K (.ref C) (.ref C) = some true
  no : ∀ t ∈ tyAll, PySem.W.kitOne K (.type t) (.ref C) = some false
theorem tyN_all {d : D} {t : String} (h : tyN d = some t) : t ∈ tyAll := by
  cases d <;> cases h <;> decide
def isiO (n : Str) (d : D) : Res D := if isCls n d = true then .ok (.bl true) else match tyN d with
  | some _ => .ok (.bl false)
  | none => .bad
section
variable {X : Cx} {c : Cf} {L G G' : List Ow} {f f1 f2 : Rho → Res D} {e o a b : Expr} {es : List Expr} {pos apos p : Pos} {fs : Rho → Res (List D)} {n : Str} {C : Addr} {F : List D → Res D} {rm : Bool} {k : Nat} {fa : Addr} {fd : FuncData} {ps : List Str}
theorem ty_ins {H : Hp} {q dx : Addr} {gs : List (Str × V)} (ic : IsC X.K C) (h : H q = some (.ins C dx gs)) : TyX X.K H (.ref q) (.ref C) := .base (.ins h ic.cl ic.ha ic.hn ic.tk ic.hm)
theorem de_isO {x : Str} {pT : Pos} (hcn : c.cm n = some C) (ic : IsC X.K C) (hm : X.mg "isinstance" = none) (hg : Gl X "isinstance") (gC : Gl X x) (mC : X.mg x = some (.ref C)) (ha : PE X e (tR c G f)) (hK : c.K = X.K := by rfl) (hd : (x == ("__debug__" : Str)) = false := by decide)
    (hs1 : starEach [e, .Name x pT] X.env = (false, eval e X.env) :: starEach [.Name x pT] X.env := by rfl) (hs2 : starEach [.Name x pT] X.env = (false, eval (.Name x pT) X.env) :: starEach [] X.env := by rfl) (hpl : (backTo pos (starEach [.Name x pT] X.env)).any (·.1) = false := by rfl) :
    PE X (.Call (.Name "isinstance" p) [e, .Name x pT] [] pos) (tV c G (dUn (isiO n) f)) := by
  have hT : PE X (.Name x pT) (tC (.ref C)) := pe_glob gC mC rfl hd
  refine pe_imp (pe_callB call_isi hg hm (by decide +kernel) (pa_cons ha (pa_cons hT pa_nil hs2) hs1) (he := hs1) (hpl := hpl)) fun σ H Q ⟨S0, H0, S, r, ok, p⟩ => rd_seq ok p fun d v S1 H1 w1 o1 m1 p1 => ?_
  unfold isiO at p1
  split at p1
  · rename_i hc
    obtain ⟨q, dx, gs, rfl, h2⟩ := of_isCls o1.ex hcn hc m1
    exact ⟨.ref q, .ref C, .ref C, .ref C, true, rfl, .own C, ty_ins ic h2, ic.self, p1.go o1.ex _ (.bl _)⟩
  · split at p1
    · rename_i t ht
      exact ⟨v, .ref C, .type t, .ref C, false, rfl, .own C, by rw [← hK]; exact RpB.ty m1 o1.ex ht, ic.no t (tyN_all ht), p1.go o1.ex _ (.bl _)⟩
    · exact p1.elim
def rCmpV (K : PySem.W.Frag) (C : Addr) (sp : Sp) : R2 := fun x y H Q => ∃ q dx gs t, x = V.ref q ∧ H q = some (.ins C dx gs) ∧ TyX K H y t ∧ PySem.W.notFirst K C t = true ∧ sp [x, y] H Q noX
theorem op_cmpV {op : CmpOp} {sp : Sp} (hop : ∀ a b, compareOp op a b = richCompare op a b) (hm : L2.Meth X.K C (cmpInfo op).2.1 fa) (F1 : FnOk X.prog X.w X.K X.mg X.base (L2N.CX X.prog X.w) k fa fd ps sp) (hr : Room k X.A) (hb : L2.Binds X.K fd ps []) : OpR X (compareOp op) (rCmpV X.K C sp) := by
  intro pins s σ H x y v u Q I rx ry h
  obtain ⟨a, dx, gs, t, rfl, ha, ty, hn, q⟩ := h
  cases rx
  obtain ⟨ox, od, J, _⟩ := ins_at I ha
  obtain ⟨P, kx, hp, _⟩ := kit_of I ry ty
  obtain ⟨m, hF⟩ := I.fr
  rw [hop]
  refine PySem.W.cmp_K (op := op) (tb := t) hr.units0 hF I.ok.mod.kin J (kx.ty _ _ I.kIn hp) hn hm.at_ hm.fn (wpAny_mono (run_calm (us := [.ref a, u]) (vs := [.ref a, y]) F1 hr I.env0 hb I (.cons rfl (.cons ry .nil)) q) (fun w s' z => ?_) fun _ _ x => x)
  obtain ⟨z', H', I', rz, qz⟩ := z
  exact SlX.cmpback rz ⟨z', H', I', rz, qz⟩
def cmpV (n : Str) (F : List D → Res D) (x d : D) : Res D := if isCls n x = true then (if isCls n d = true ∨ (tyN d).isSome = true then (match F [x, d] with
  | .ok a => .ok a
  | _ => .bad) else .bad) else .bad
theorem os_cmpV (hcn : c.cm n = some C) (ic : IsC X.K C) (n1 : PySem.W.notFirst X.K C (.ref C) = true) (n2 : ∀ t ∈ tyAll, PySem.W.notFirst X.K C (.type t) = true) (hK : c.K = X.K := by rfl) : OpS c (mR c rm) (rCmpV X.K C (spD c.K c.cm [true, true] rm F)) (cmpV n F) := by
  intro σ S H x y d e Q ex hx hy p
  unfold cmpV at p
  split at p
  · rename_i hc
    obtain ⟨a, dx, gs, rfl, h2⟩ := of_isCls ex hcn hc hx
    split at p
    · rename_i hd
      split at p
      · rename_i r hF
        have fin := calm_sp (c := c) (rm := rm) (ms := [true, true]) (vs := [.ref a, y]) (ds := [d, e]) (Q := Q) ex ⟨hx, hy, trivial⟩ hF fun S' H' v w hb => p S' H' w v hb
        rcases hd with hd | hd
        · obtain ⟨b, dy, gs', rfl, h3⟩ := of_isCls ex hcn hd hy
          exact ⟨a, dx, gs, .ref C, rfl, h2, ty_ins ic h3, n1, fin⟩
        · obtain ⟨t, ht⟩ := Option.isSome_iff_exists.mp hd
          exact ⟨a, dx, gs, .type t, rfl, h2, by rw [← hK]; exact RpB.ty hy ex ht, n2 t (tyN_all ht), fin⟩
      · exact p.elim
    · exact p.elim
  · exact p.elim
def dProp (n : Str) (F : List D → Res D) (f : Rho → Res D) : Rho → Res D := fun r => (f r).bind fun x => if isCls n x = true then (match F [x] with
  | .ok a => .ok a
  | _ => .bad) else .bad
theorem de_prop {fl : Str} {pa : Addr} (hcn : c.cm n = some C) (cl : Cls X.K C) (hp : PropOf X.K C fl pa fa) (F1 : FnOk X.prog X.w X.K X.mg X.base (L2N.CX X.prog X.w) k fa fd ps (spD c.K c.cm [true] rm F)) (hr : Room (k + 1) X.A) (hb : L2.Binds X.K fd ps []) (he : PE X e (tR c G f))
    (hab : attributeBase e fl X.env (eval e X.env) = eval e X.env := by rfl) : PE X (.Attribute e fl pos) (rd c G (dProp n F f) (mR c rm)) :=
  pe_imp (pe_prop (dvs := []) (ds := []) (E := noX) he cl hp F1 hr hb .nil (fun _ _ _ _ _ _ _ h => (cx_never h).elim) hab) fun σ H Q ⟨S0, H0, S, r, ok, p⟩ => rd_seq ok p fun x v S1 H1 w1 o1 m1 p1 => by
    split at p1
    · rename_i hc
      obtain ⟨a, dx, gs, rfl, h2⟩ := of_isCls o1.ex hcn hc m1
      split at p1
      · rename_i z hF
        have p2 := p1.anti w1.h
        exact ⟨a, dx, gs, rfl, h2, calm_sp (ds := [x]) o1.ex ⟨m1, trivial⟩ hF fun S' H' b w hb => p2 S' H' w b hb⟩
      · exact p1.elim
    · exact p1.elim
theorem ds_parO (i j : Nat) {x y : Str} {px py pt pt2 : Pos} {kt k2 : Nat} (hg : Gok c G) (hc : X.calm = true) (hN : X.N.Nodup) (hi : X.N[i]? = some x) (hj : X.N[j]? = some y) (hij : i ≠ j) (hGi : i < G.length) (hGj : j < G.length)
    (hx : X.env.scope.names.lookup x = some .local) (hy : X.env.scope.names.lookup y = some .local) (ha : PE X a (tO c G f1)) (hb : PE X b (tO c G f2))
    (hw : swappedStores [.Tuple [.Name x px, .Name y py] kt pt] (.Tuple [a, b] k2 pt2) X.env = pure (some [x, y]))
    (hs : swapsWithSole [.Tuple [.Name x px, .Name y py] kt pt] (.Tuple [a, b] k2 pt2) pos.line X.env = pure false := by rfl)
    (hs1 : starEach [a, b] X.env = (false, eval a X.env) :: starEach [b] X.env := by rfl) (hs2 : starEach [b] X.env = (false, eval b X.env) :: starEach [] X.env := by rfl) :
    PS X (.Assign [.Tuple [.Name x px, .Name y py] kt pt] (.Tuple [a, b] k2 pt2) pos) (sD c L G ((G.set i .o).set j .o) (parF i j f1 f2)) :=
  ps_imp (ps_par hc hN hi hj hij hx hy (pa_cons ha (pa_cons hb pa_nil hs2) hs1) hw hs) fun E σ H ⟨S0, H0, S, r, ok, p⟩ => by
    have p' : PostS c S0 H0 L ((G.set i .o).set j .o) (liftS r (f1 r) fun d => liftS r (f2 r) fun e => .nx ((r.set i (some d)).set j (some e))) E := by
      unfold parF dCons dNil at p
      cases h1 : f1 r with
      | ok d =>
        rw [h1] at p
        cases h2 : f2 r with
        | ok e => rw [h2] at p; exact p
        | err n ns vs => rw [h2] at p; exact p
        | bad => rw [h2] at p; exact p
      | err n ns vs => rw [h1] at p; exact p
      | bad => rw [h1] at p; exact p
    refine st_seq hg ok p' fun d v S1 H1 w1 o1 m1 p1 => st_seq hg o1 p1 fun e u S2 H2 w2 o2 m2 p2 => ?_
    obtain ⟨q1, ho1, rfl, n1, ns1, hp1, h1⟩ := m1
    obtain ⟨q2, ho2, rfl, n2, ns2, hp2, h2⟩ := m2
    have e1 := ok.setO w1 i hGi n1 ns1 hp1 h1
    have e2 := e1.setO w2 j (by rw [List.length_set]; exact hGj) n2 ns2 hp2 h2
    exact ⟨_, _, rfl, p2 _ S2 H2 e2⟩
def keyD : D → Option Key
  | .int i => some (.inl i)
  | .str z => some (.inr z)
  | _ => none
def keyOf : Key → D
  | .inl i => .int i
  | .inr z => .str z
def getK {κ : Type} [DecidableEq κ] : List κ → List D → κ → Option D
  | k :: ks, v :: vs, x => if k = x then some v else getK ks vs x
  | _, _, _ => none
def putV {κ : Type} [DecidableEq κ] (ks : List κ) (vs : List D) (x : κ) (d : D) : List κ × List D := if (ks.any fun k => decide (k = x)) = true then (ks, List.zipWith (fun k v => if k = x then d else v) ks vs) else (ks ++ [x], vs ++ [d])
/-- {} -/
def dD0 : Rho → Res D := fun _ => .ok (.dk [] [])
/-- k in d -/
def inK (neg : Bool) : D → D → Res D
  | k, .dk ks vs => match keyD k with
    | some x => .ok (.bl (if neg then !(getK ks vs x).isSome else (getK ks vs x).isSome))
    | none => .bad
  | _, _ => .bad
/-- list(d), len(d) -/
def listK : D → Res D
  | .dk ks _ => .ok (.lst (ks.map keyOf))
  | _ => .bad
def lenK : D → Res D
  | .dk ks _ => .ok (.int ks.length)
  | .dt ks _ => .ok (.int ks.length)
  | _ => .bad
/-- d[k] = v, d an own dict -/
def ownK (i : Nat) (r : Rho) : Res (List Key × List D) := match r[i]? with
  | some (some (.dk ks vs)) => .ok (ks, vs)
  | _ => .bad
def asK (d : D) : Res Key := match keyD d with
  | some k => .ok k
  | none => .bad
noncomputable def putF (i : Nat) (fk f : Rho → Res D) : Rho → SR := fun r => liftS r (f r) fun d => liftS r (ownK i r) fun o => liftS r (fk r) fun k => liftS r (asK k) fun x => guardS (o.1.length < sizeLine) (.nx (r.set i (some (.dk (putV o.1 o.2 x d).1 (putV o.1 o.2 x d).2))))
end
end Dx
end S_DxR
section S_DxI
set_option Elab.async false
set_option linter.all false
set_option maxRecDepth 100000
set_option maxHeartbeats 2000000
namespace Dx
open PySem L2 ItX PyProof.Rows
section
variable {X : Cx} {c : Cf} {L G G' : List Ow} {a b e : Expr} {pos : Pos} {f f1 f2 : Rho → Res D} {k : Nat}
def keysD : List D → Option (List Key)
  | [] => some []
  | d :: ds => match keyD d, keysD ds with
    | some k, some ks => some (k :: ks)
    | _, _ => none
def keyT : D → Option (List Key)
  | .tup ds => keysD ds
  | _ => none
def tupOf (ks : List Key) : D := .tup (ks.map keyOf)
/-- a tuple of the heap becomes one that stays -/
theorem Fwd.tup {S H : Hp} (e : Ex S H) {q : Addr} {xs : List V} (h : H q = some (.tup xs)) : ∃ S', Fwd S H S' H ∧ S' q = some (.tup xs) := by
  cases hs : S q with
  | some o =>
    have := e.same hs h (fun _ z => by cases z)
    subst this
    exact ⟨S, Fwd.refl e, hs⟩
  | none =>
    refine ⟨upd S q (.tup xs), ⟨Ex.new hs, Ex.refl, fun a u ha => ?_, fun a u ha m => ?_, Tk.refl⟩, upd_same⟩
    · by_cases hh : a = q
      · subst hh; rw [upd_same] at ha; exact .mk (by rw [h]; exact ha)
      · rw [upd_ne hh] at ha; exact e a u ha
    · by_cases hh : a = q
      · subst hh; exact .inr ⟨xs, h⟩
      · rw [upd_ne hh, m] at ha; cases ha
def itemsK : D → Res (List D)
  | .dt ks _ => .ok (ks.map tupOf)
  | .dk ks _ => .ok (ks.map keyOf)
  | _ => .bad
variable {tg : Expr}
end
end Dx
end S_DxI
section S_DxJ
set_option Elab.async false
set_option linter.all false
set_option maxRecDepth 100000
set_option maxHeartbeats 2000000
namespace Dx
open PySem L2 ItX PyProof.Rows
theorem tyAll_of {p : String → Prop} (h1 : p "NoneType") (h2 : p "bool") (h3 : p "int") (h4 : p "str") (h5 : p "list") (h6 : p "tuple") (h7 : p "dict") : ∀ t ∈ tyAll, p t := fun t ht => by
  simp only [tyAll, List.mem_cons, List.not_mem_nil, or_false] at ht
  rcases ht with rfl | rfl | rfl | rfl | rfl | rfl | rfl <;> assumption
/-- a def of the text, whatever its defaults are -/
structure FunE (K : PySem.W.Frag) (x qual : Str) (st : Stmt) (f : Addr) (fd : FuncData) : Prop where
  ex : ∃ (oc : Value) (od : Option Addr) (dV kV doc pm : Value) (an : Option Addr) (cdv ct : Value) (osl : Array (Option Value)),
    fd = PySem.W.fnOf x qual (defArgs st) (defBody st) (defScope st) dV kV doc pm an cdv ct ∧ K.lookup f = some ⟨oc, od, .func fd, osl⟩ ∧ PySem.W.codeIn K cdv qual = true
  kp : PySem.W.keepIn K (.ref f) = true
section
variable {P : Program} {w : World} {K : PySem.W.Frag} {mg : Str → Option Value} {base : Heap} {cm : CM}
theorem FunE.okN {x qual : Str} {st : Stmt} {f : Addr} {fd : FuncData} {N ps : List Str} {k : Nat} {sp : Sp} (F : FunE K x qual st f fd) (S : FnScope N ps (defScope st)) (len : ∀ vs H Q E, sp vs H Q E → vs.length = ps.length)
    (hbody : ∀ (cdv : Value) (A : Around) (outer : List Env) (s : Shared) (H : Hp) (vs : List V) (Q : VK) (E : XK), Room k (A.deeper (envOfC qual (defScope st) s.heap.objs.size f cdv)) → sp vs H Q E →
      ∃ t, PSs (cxOf (L2N.CX P w) P w K mg base N qual (defScope st) f cdv A outer s H E) (defBody st) t ∧ t { nx := fun _ H' => Q .non H', rt := Q } (start N vs) H) : FnOk P w K mg base (L2N.CX P w) (k + 1) f fd ps sp := by
  obtain ⟨oc, od, dV, kV, doc, pm, an, cdv, ct, osl, rfl, lk, hcd⟩ := F.ex
  exact fn_of lk hcd S len fun A outer s H vs Q E hr hsp => hbody cdv A outer s H vs Q E hr hsp
theorem funE_mk {x qual : Str} {st : Stmt} {f : Addr} {oc : Value} {od an : Option Addr} {osl : Array (Option Value)} {dV kV doc pm cdv ct : Value} (l : K.lookup f = some ⟨oc, od, .func (PySem.W.fnOf x qual (defArgs st) (defBody st) (defScope st) dV kV doc pm an cdv ct), osl⟩)
    (c : PySem.W.codeIn K cdv qual = true) (k : PySem.W.keepIn K (.ref f) = true) : FunE K x qual st f (PySem.W.fnOf x qual (defArgs st) (defBody st) (defScope st) dV kV doc pm an cdv ct) :=
  ⟨⟨oc, od, dV, kV, doc, pm, an, cdv, ct, osl, rfl, l, c⟩, k⟩
/-- n values are written, the defaults behind the first j fill up -/
theorem binds_d {fd : FuncData} {T : Addr} {o : Obj} {its : List Value} {m : Nat} {ps : List Str} (n j : Nat) (lT : K.lookup T = some o) (oT : o.data = .seq its.toArray m) (hm : n + (its.length - j) = ps.length)
    (h : ∀ us : List Value, us.length = n → ∃ k, bindArgs fd ⟨us, []⟩ = seqItems? (.ref T) >>= k ∧ k (some its.toArray) = pure (ps.zip (us ++ its.drop j))) : L2.Binds K fd ps (its.drop j) := fun s us X hl => by
  obtain ⟨k, e1, e2⟩ := h us (by rw [List.length_append, List.length_drop] at hl; omega)
  refine BindsTo.of_looks fun M => ?_
  rw [e1]
  exact looks_items X lT oT (.of_pure e2)
/-- THE RULE for an __init__ with defaults -/
theorem dokIE {x qual : Str} {st : Stmt} {f C : Addr} {fd : FuncData} {N ps : List Str} {k : Nat} {ms : List Bool} {n : Str} {Fb : Rho → SR} (F : FunE K x qual st f fd) (S : FnScope N ps (defScope st)) (hcn : cm n = some C) (hm : ms.length + 1 = ps.length) (hn : ps.length ≤ N.length)
    {G' : Addr → List Ow} (hG : ∀ a, kd (G' a) 0 = .i a)
    (hb : ∀ (cdv : Value) (A : Around) (outer : List Env) (s : Shared) (H : Hp) (E : XK) (a : Addr), Room k (A.deeper (PyProof.Rows.envOfC qual (defScope st) s.heap.objs.size f cdv)) →
      PSs (cxOf (L2N.CX P w) P w K mg base N qual (defScope st) f cdv A outer s H E) (defBody st) (sD (cfE K cm false E) [] (GI a ms N.length) (G' a) Fb)) :
    FnOk P w K mg base (L2N.CX P w) (k + 1) f fd ps (spI K cm C ms (runI N.length n Fb)) := by
  refine F.okN S (fun vs H Q E h => ?_) (fun cdv A outer s H vs Q E hr h => ?_)
  · obtain ⟨x, dx, H1, S, us, ds, rfl, _, _, _, _, _, m, _⟩ := h
    rw [List.length_cons, m.len.1, hm]
  · obtain ⟨x, dx, H1, S, us, ds, rfl, hx, hdx, hne, rfl, ex, m, q⟩ := h
    refine ⟨_, hb cdv A outer s _ E x hr, S, H1, S, startI N.length n ds, env_startI (c := cfE K cm false E) hcn ex (RpM.cf (c := ⟨K, cm, fun _ _ _ _ => False, none, true, fun _ _ => False⟩) (c' := cfE K cm false E) rfl rfl m) (by omega) hx hdx hne, ?_⟩
    unfold runI at q
    cases hF : Fb (startI N.length n ds) with
    | rt d => rw [hF] at q; exact q.elim
    | nx r =>
      rw [hF] at q
      dsimp only at q
      intro σ' S' H' ok
      split at q
      · rename_i d hd
        obtain ⟨v, h1, h2⟩ := ok.slot 0 d hd
        rw [hG x] at h2
        obtain ⟨rfl, p, ho, e1, e2, e3, e4, e5⟩ := h2
        cases e1
        exact q S' H' ok.fwd ⟨ho, e3, e2, e5⟩
      · exact q.elim
    | er r n ns vs =>
      rw [hF] at q
      exact fun C dd σ' S' H' fs h1 fw _ h2 h3 h4 => q C dd S' H' fs h1 fw h2 h3 h4
    | bk r => rw [hF] at q; exact q.elim
    | ct r => rw [hF] at q; exact q.elim
    | bad => rw [hF] at q; exact q.elim
end
section
variable {X : Cx} {c : Cf} {L G G' : List Ow} {f f1 : Rho → Res D} {e o : Expr} {es : List Expr} {pos apos p : Pos}
variable {k : Nat} {fa : Addr} {fd : FuncData} {ps : List Str} {ms : List Bool} {rm : Bool} {F : List D → Res D}
/-- C(), the defaults fill up -/
theorem de_make0 {x : Str} {C : Addr} {dvs : List V} {us : List Value} {ds0 : List D} (M : Mk X.K C fa) (F1 : FnOk X.prog X.w X.K X.mg X.base (L2N.CX X.prog X.w) k fa fd ps (spI c.K c.cm C ms F)) (tk : L2N.Takes X c.W) (hr : Room (k + 1) X.A) (hg : Gl X x) (hm : X.mg x = some (.ref C)) (hb : L2.Binds X.K fd ps us)
    (hd : Vals dvs us) (hv : ∀ S H, RpM c S H ms dvs ds0) (hdb : (x == ("__debug__" : Str)) = false := by decide) : PE X (.Call (.Name x p) [] [] pos) (tO c G (fun _ => F ds0)) :=
  pe_imp (pe_makeSD0 (dvs := dvs) (E := fun σ cls d H => c.W cls d σ H) M F1 hr hg hm hb hd (fun σ => L2N.passAt tk σ) hdb) fun σ H Q ⟨S0, H0, S, r, ok, q⟩ => fun x dx hx hdx hne => make_rd (fun _ _ _ h => h) ok.ex (hv S H) hx hdx hne q
/-- a borrowed list or tuple: a parameter's slot -/
def itemsX : D → Res (List D)
  | .lst ds => .ok ds
  | .fz ds => .ok ds
  | .kt ds => .ok ds
  | .tup ds => .ok ds
  | _ => .bad
variable {tg : Expr}
theorem pi_or {it : Expr} {t t' : TI} (h : PI X tg it t) (h' : PI X tg it t') : PI X tg it (fun σ H R => t σ H R ∨ t' σ H R) := ⟨fun pins s σ H R I q => q.elim (h.run pins s σ H R I) (h'.run pins s σ H R I)⟩
theorem di_borX (i : Nat) {x : Str} (he : PE X (.Name x pos) (tVar i)) (k : kd G i = .b) (hK : c.K = X.K := by rfl) : PI X tg (.Name x pos) (iD c G (dIt itemsX (dVar i))) := pi_imp (pi_or (pi_list he) (pi_tup he)) fun σ H R ⟨S0, H0, S, r, ok, p⟩ => by
  obtain ⟨d, hd, p⟩ := of_dVar (p.unbind)
  obtain ⟨v, h1, h2⟩ := ok.slot i d hd
  rw [k] at h2
  have p1 := p.go ok.ex
  rw [← hK]
  cases d with
  | lst ds =>
    refine .inl ⟨v, h1, ?_⟩
    rcases h2 with h2 | ⟨q, ho, rfl, h3, h4⟩
    · cases h2 with | @lst q xs _ h rr =>
      exact ⟨q, rfl, ⟨xs, .inl (.inl (ok.ex _ _ h))⟩, p1.go ok.ex _ (gives_list (.inl (.inl h)) rr)⟩
    · cases h4 with | @lst xs _ rr =>
      refine ⟨q, rfl, ⟨xs, .inl (.inl (ok.fwd.h _ _ h3))⟩, p1.go ok.ex _ ⟨_, _, by rw [← rr.length]; exact walk_list (K := c.K) (a := q) (xs := xs), fun S'' H'' e1 e2 e3 => show SqL c.K H'' q xs from .inl (.inl (e3 _ _ h3)), fun i S1 H1 x H2 hi e1 e2 y => ?_⟩⟩
      obtain ⟨rfl, hx⟩ := y
      obtain ⟨d, h1, h2⟩ := rr.getV hx
      exact ⟨S1, d, Fwd.refl e2, h1, h2.mono e1⟩
  | fz ds =>
    refine .inl ⟨v, h1, ?_⟩
    rcases h2 with h2 | ⟨q, ho, rfl, h3, h4⟩
    · cases h2 with | @fz q xs _ h rr =>
      exact ⟨q, rfl, ⟨xs, ok.ex.l h⟩, p1.go ok.ex _ (gives_list h rr)⟩
    · cases h4
  | kt ds =>
    refine .inr ⟨v, h1, ?_⟩
    rcases h2 with h2 | ⟨q, ho, rfl, h3, h4⟩
    · cases h2 with | @kt q xs _ h rr =>
      exact ⟨q, rfl, ⟨xs, ok.ex.t h⟩, p1.go ok.ex _ (gives_tup h rr)⟩
    · cases h4
  | tup ds =>
    refine .inr ⟨v, h1, ?_⟩
    rcases h2 with h2 | ⟨q, ho, rfl, h3, h4⟩
    · cases h2 with | @tup q xs _ h rr =>
      exact ⟨q, rfl, ⟨xs, .inl (.inl (ok.ex _ _ h))⟩, p1.go ok.ex _ (gives_tup (.inl (.inl h)) rr)⟩
    · cases h4
  | _ => exact p1.elim
/-- the written () as a default -/
theorem kt_nil {K : PySem.W.Frag} {cm : CM} {E : Addr} {oc : Value} {od : Option Addr} {n : Nat} {sl : Array (Option Value)} (l : K.lookup E = some ⟨.type "tuple", od, .seq #[] n, sl⟩) (S : Hp) : Rp K cm S (.ref E) (.kt []) :=
  .kt (.inr ⟨_, #[], n, l, rfl, rfl, by rw [sizeLine_eq]; decide, .nil⟩) .nil
end
end Dx
end S_DxJ
section S_DxH
set_option Elab.async false
set_option linter.all false
set_option maxRecDepth 100000
set_option maxHeartbeats 4000000
namespace Dx
open PySem L2 PyProof.Rows Srt SrtO
abbrev T3 := Int × Int × Int
section
variable {prog : Program} {w : World} {A : Around} {E : Value → Shared → Prop} {s : Shared}
/-- v is a tuple of three ints in the heap -/
def IsTri (h : Heap) (v : Value) (k : T3) : Prop := ∃ a o t u v' n, v = .ref a ∧ h.get? a = some o ∧ o.cls = .type "tuple" ∧ o.data = .seq #[.int k.1 t, .int k.2.1 u, .int k.2.2 v'] n
theorem IsTri.keeps {h h' : Heap} {v : Value} {k : T3} (p : IsTri h v k) (kk : ∀ b o, h.get? b = some o → o.cls = .type "tuple" → h'.get? b = some o) : IsTri h' v k := by
  obtain ⟨a, o, t, u, z, n, e, ho, hc, hd⟩ := p
  exact ⟨a, o, t, u, z, n, e, kk _ _ ho hc, hc, hd⟩
end
end Dx
end S_DxH
section S_DxL
set_option Elab.async false
set_option linter.all false
set_option maxRecDepth 100000
set_option maxHeartbeats 4000000
namespace Dx
open PySem L2
section
variable {X : Cx} {c : Cf} {G G' G2 : List Ow} {S0 H0 S H S' H' : Hp} {σ : St} {r : Rho}
def isVB : Ow → Bool
  | .v => true
  | .b => true
  | _ => false
def noOwn (G : List Ow) : Prop := ∀ i, isVB (kd G i) = true
theorem noOwn_of {G : List Ow} (h : G.all isVB = true) : noOwn G := fun i => by
  unfold kd
  rw [List.getD_eq_getElem?_getD]
  cases e : G[i]? with
  | none => rfl
  | some k => exact List.all_eq_true.mp h k (List.mem_of_getElem? e)
/-- where nothing is own, only what stays counts -/
theorem EnvOk.jump (e : EnvOk c S0 H0 G S H σ r) (hno : noOwn G) (es : Ex S S') (fw : Fwd S0 H0 S' H') : EnvOk c S0 H0 G S' H' σ r := by
  refine ⟨fw, e.len, fun i d hd => ?_, fun i j d d' p hi hj ki kj si sj => e.sep i j d d' p hi hj ki kj si sj, [], ⟨.nil, fun a ha => (nomatch ha), fun i d p _ _ _ => (fun h => nomatch h), fun i k M P ki hi => ?_, fun i k ki hi => ?_, e.tab0⟩⟩
  · obtain ⟨v, h1, h2⟩ := e.slot i d hd
    refine ⟨v, h1, ?_⟩
    have := hno i
    cases k : kd G i with
    | v => rw [k] at h2; exact Rp.mono es h2
    | b => rw [k] at h2; exact RpB.mono h2 es Ex.refl
    | _ => rw [k] at this; cases this
  · have := hno i
    rw [ki] at this; cases this
  · have := hno i
    rw [ki] at this; cases this
def lc2Loop (t : D → Rho → Res Rho) (tt : Rho → Res Bool) (its1 : Rho → Res (List D)) (t1 : D → Rho → Res Rho) (tt1 : Rho → Res Bool) (fe : Rho → Res D) (vs1 : List Nat) (rw : Rho) : List D → Res (List D)
  | [] => .ok []
  | d :: ds => match t d rw with
    | .ok r1 => match tt r1 with
      | .ok true => match its1 r1 with
        | .ok ds1 => match lcLoop t1 tt1 fe (wipeR r1 vs1) ds1 with
          | .ok xs => match lc2Loop t tt its1 t1 tt1 fe vs1 rw ds with
            | .ok ys => .ok (xs ++ ys)
            | _ => .bad
          | _ => .bad
        | _ => .bad
      | .ok false => lc2Loop t tt its1 t1 tt1 fe vs1 rw ds
      | _ => .bad
    | _ => .bad
noncomputable def dLc2 (its : Rho → Res (List D)) (t : D → Rho → Res Rho) (tt : Rho → Res Bool) (its1 : Rho → Res (List D)) (t1 : D → Rho → Res Rho) (tt1 : Rho → Res Bool) (fe : Rho → Res D) (vs vs1 : List Nat) : Rho → Res D := fun r => (its r).bind fun ds => match lc2Loop t tt its1 t1 tt1 fe vs1 (wipeR r vs) ds with
  | .ok xs => guard (xs.length ≤ sizeLine) (.ok (.lst xs))
  | _ => .bad
theorem wipe2 {σ : St} {vs : List Nat} : L2.wipe (L2.wipe σ vs) vs = L2.wipe σ vs := by
  apply List.ext_getElem?
  intro k
  rw [wipe_get, wipe_get]
  split
  · cases σ[k]? <;> rfl
  · rfl
theorem lc2_rd {its : Rho → Res (List D)} {t : D → Rho → Res Rho} {tt : Rho → Res Bool} {its1 : Rho → Res (List D)} {t1 : D → Rho → Res Rho} {tt1 : Rho → Res Bool} {fe : Rho → Res D} {vs vs1 : List Nat} (hno : noOwn G') : ∀ σ H Q, tO c G (dLc2 its t tt its1 t1 tt1 fe vs vs1) σ H Q →
    tLc2 (iDl c G its) (gD c.calm G G' vs t) (tT c.calm G' tt) (iD c.calm G' its1) (gD c.calm G' G2 vs1 t1) (tT c.calm G2 tt1) (tV c.calm G2 fe) vs vs1 σ H Q := fun σ H Q ⟨S0, H0, S, r, ok, p⟩ => by
  refine ⟨S0, H0, S, r, ok, p.unbind.imp fun ds S1 H1 w1 p1 J gv Dl hD => ?_⟩
  obtain ⟨Gd, Y, wk, hG, hY⟩ := gv
  have ok1 := ok.go w1
  split at p1
  · rename_i res hres
    obtain ⟨hl, p1⟩ := p1.gd
    have okw := ok1.wiped vs
    have nS : S1 Dl = none := ok1.ex.nn hD
    refine ⟨fun i m H' => m = ds.length - i ∧ i ≤ ds.length ∧ ∃ S' acc accD rest, Fwd S1 H1 S' H' ∧ S' Dl = none ∧ H' Dl = some (.lst acc) ∧ RpA c.K c.cm S' acc accD ∧ lc2Loop t tt its1 t1 tt1 fe vs1 (wipeR r vs) (ds.drop i) = .ok rest ∧ accD ++ rest = res,
      ⟨ds.length, by omega, by omega, S1, [], [], res, Fwd.heap ok1.ex hD, nS, upd_same, .nil, by rw [List.drop_zero]; exact hres, rfl⟩, ?_⟩
    rintro i m H' ⟨rfl, hi, S', acc, accD, rest, fw, n1, h1, r1, hr, ha⟩
    have gd := hG S' H' fw.s fw.sub fw.h
    by_cases hlt : i < ds.length
    · refine .inr ⟨wk.goes i H' hlt gd, fun H'' => i + 1 ≤ ds.length ∧ ∃ S' acc accD rest, Fwd S1 H1 S' H'' ∧ S' Dl = none ∧ H'' Dl = some (.lst acc) ∧ RpA c.K c.cm S' acc accD ∧ lc2Loop t tt its1 t1 tt1 fe vs1 (wipeR r vs) (ds.drop (i + 1)) = .ok rest ∧ accD ++ rest = res,
        fun H'' z => ⟨ds.length - (i + 1), by omega, rfl, z.1, z.2⟩, fun x H2 y => ?_⟩
      obtain ⟨S2, d, fw2, hd, hx⟩ := hY i S' H' x H2 hlt fw.s fw.sub (wk.yields i H' x H2 hlt gd y)
      have hdrop : ds.drop i = d :: ds.drop (i + 1) := by
        rw [List.drop_eq_getElem_cons hlt]
        rw [List.getElem?_eq_getElem hlt] at hd
        cases hd; rfl
      rw [hdrop] at hr
      unfold lc2Loop at hr
      refine ⟨S0, H0, S2, wipeR r vs, d, okw.go (fw.trans fw2), hx, ?_⟩
      cases ht : t d (wipeR r vs) with
      | err _ _ _ => rw [ht] at hr; cases hr
      | bad => rw [ht] at hr; cases hr
      | ok r2 =>
        rw [ht] at hr
        dsimp only at hr
        intro σ3 z3 ok3
        have keepN : ∀ S4 H4, Fwd S' H' S4 H4 → S4 Dl = none := fun S4 H4 f4 => by
          cases q : S4 Dl with
          | none => rfl
          | some u => obtain ⟨_, z⟩ := (f4.new Dl u q n1).not h1; cases z
        refine ⟨z3.trans wipe2, S0, H0, S2, r2, ok3, ?_⟩
        cases htt : tt r2 with
        | err _ _ _ => rw [htt] at hr; cases hr
        | bad => rw [htt] at hr; cases hr
        | ok b =>
          rw [htt] at hr
          intro S4 H4 w4 b' hb
          cases hb
          have f4 := fw2.trans w4
          cases b with
          | false =>
            dsimp only at hr
            rw [if_neg (by decide)]
            exact ⟨hlt, S4, acc, accD, rest, fw.trans f4, keepN S4 H4 f4, f4.h _ _ h1, r1.mono f4.s, hr, ha⟩
          | true =>
            dsimp only at hr
            rw [if_pos rfl]
            have ok4 := ok3.go w4
            refine ⟨S0, H0, S4, r2, ok4, ?_⟩
            cases hit : its1 r2 with
            | err _ _ _ => rw [hit] at hr; cases hr
            | bad => rw [hit] at hr; cases hr
            | ok ds1 =>
              rw [hit] at hr
              dsimp only at hr
              cases hin : lcLoop t1 tt1 fe (wipeR r2 vs1) ds1 with
              | err _ _ _ => rw [hin] at hr; cases hr
              | bad => rw [hin] at hr; cases hr
              | ok xs1 =>
                rw [hin] at hr
                dsimp only at hr
                cases hout : lc2Loop t tt its1 t1 tt1 fe vs1 (wipeR r vs) (ds.drop (i + 1)) with
                | err _ _ _ => rw [hout] at hr; cases hr
                | bad => rw [hout] at hr; cases hr
                | ok ys =>
                  rw [hout] at hr
                  cases hr
                  intro S5 H5 w5 J1 gv1
                  have f5 := f4.trans w5
                  obtain ⟨Gd1, Y1, wk1, hG1, hY1⟩ := gv1
                  refine ⟨fun j k H' => k = ds1.length - j ∧ j ≤ ds1.length ∧ ∃ S' acc accD rest1, Fwd S1 H1 S' H' ∧ Ex S5 S' ∧ S' Dl = none ∧ H' Dl = some (.lst acc) ∧ RpA c.K c.cm S' acc accD ∧ lcLoop t1 tt1 fe (wipeR r2 vs1) (ds1.drop j) = .ok rest1 ∧ accD ++ (rest1 ++ ys) = res,
                    ⟨ds1.length, by omega, by omega, S5, acc, accD, xs1, fw.trans f5, Ex.refl, keepN S5 H5 f5, f5.h _ _ h1, r1.mono f5.s, by rw [List.drop_zero]; exact hin, ha⟩, ?_⟩
                  rintro j k H6 ⟨rfl, hj, S6, acc6, accD6, rest6, g1, g2, g3, g4, g5, g6, g7⟩
                  have e06 : Ex H0 H6 := ok1.fwd.h.trans g1.h
                  have gd1 := hG1 S6 H6 g2 g1.sub e06
                  by_cases hjl : j < ds1.length
                  · refine .inr ⟨wk1.goes j H6 hjl gd1, fun H' => j + 1 ≤ ds1.length ∧ ∃ S' acc accD rest1, Fwd S1 H1 S' H' ∧ Ex S5 S' ∧ S' Dl = none ∧ H' Dl = some (.lst acc) ∧ RpA c.K c.cm S' acc accD ∧ lcLoop t1 tt1 fe (wipeR r2 vs1) (ds1.drop (j + 1)) = .ok rest1 ∧ accD ++ (rest1 ++ ys) = res,
                      fun H' z => ⟨ds1.length - (j + 1), by omega, rfl, z.1, z.2⟩, fun x1 H7 y1 => ?_⟩
                    obtain ⟨S7, d1, fw7, hd1, hx1⟩ := hY1 j S6 H6 x1 H7 hjl g2 g1.sub (wk1.yields j H6 x1 H7 hjl gd1 y1)
                    have hdrop1 : ds1.drop j = d1 :: ds1.drop (j + 1) := by
                      rw [List.drop_eq_getElem_cons hjl]
                      rw [List.getElem?_eq_getElem hjl] at hd1
                      cases hd1; rfl
                    rw [hdrop1] at g6
                    unfold lcLoop at g6
                    have keep1 : ∀ S8 H8, Fwd S6 H6 S8 H8 → S8 Dl = none := fun S8 H8 f8 => by
                      cases q : S8 Dl with
                      | none => rfl
                      | some u => obtain ⟨_, z⟩ := (f8.new Dl u q g3).not g4; cases z
                    have ok7 : EnvOk c.calm S0 H0 G' S7 H7 σ3 r2 := EnvOk.jump ok4 hno ((w5.s.trans g2).trans fw7.s) (ok1.fwd.trans (g1.trans fw7))
                    refine ⟨S0, H0, S7, wipeR r2 vs1, d1, ok7.wiped vs1, hx1, ?_⟩
                    cases ht1 : t1 d1 (wipeR r2 vs1) with
                    | err _ _ _ => rw [ht1] at g6; cases g6
                    | bad => rw [ht1] at g6; cases g6
                    | ok r3 =>
                      rw [ht1] at g6
                      dsimp only at g6
                      intro σ4 z4 ok8
                      refine ⟨z4.trans wipe2, S0, H0, S7, r3, ok8, ?_⟩
                      cases htt1 : tt1 r3 with
                      | err _ _ _ => rw [htt1] at g6; cases g6
                      | bad => rw [htt1] at g6; cases g6
                      | ok b1 =>
                        rw [htt1] at g6
                        intro S8 H8 w8 b2 hb2
                        cases hb2
                        have f8 := fw7.trans w8
                        cases b1 with
                        | false =>
                          dsimp only at g6
                          rw [if_neg (by decide)]
                          exact ⟨hjl, S8, acc6, accD6, rest6, g1.trans f8, g2.trans f8.s, keep1 S8 H8 f8, f8.h _ _ g4, g5.mono f8.s, g6, g7⟩
                        | true =>
                          dsimp only at g6
                          rw [if_pos rfl]
                          refine ⟨S0, H0, S8, r3, ok8.go w8, ?_⟩
                          cases hfe : fe r3 with
                          | err _ _ _ => rw [hfe] at g6; cases g6
                          | bad => rw [hfe] at g6; cases g6
                          | ok x2 =>
                            rw [hfe] at g6
                            dsimp only at g6
                            cases hlc : lcLoop t1 tt1 fe (wipeR r2 vs1) (ds1.drop (j + 1)) with
                            | err _ _ _ => rw [hlc] at g6; cases g6
                            | bad => rw [hlc] at g6; cases g6
                            | ok xs2 =>
                              rw [hlc] at g6
                              cases g6
                              intro S9 H9 w9 y9 hy9
                              have f9 := f8.trans w9
                              refine ⟨acc6, f9.h _ _ g4, ?_, hjl, S9, acc6 ++ [y9], accD6 ++ [x2], xs2, (g1.trans f9).put hD (keep1 S9 H9 f9) (Tk.at (f9.h _ _ g4) .lst), g2.trans f9.s, keep1 S9 H9 f9, upd_same, (g5.mono f9.s).app (.one hy9), rfl, ?_⟩
                              · rw [g5.length]
                                have : accD6.length + 1 ≤ res.length := by rw [← g7]; simp only [List.length_append, List.length_cons]; omega
                                omega
                              · rw [← g7, List.append_assoc]; rfl
                  · have e : j = ds1.length := by omega
                    subst e
                    rw [List.drop_length] at g6
                    cases g6
                    exact .inl ⟨wk1.stops H6 gd1, hlt, S6, acc6, accD6, ys, g1, g3, g4, g5, rfl, g7⟩
    · have e : i = ds.length := by omega
      subst e
      rw [List.drop_length] at hr
      cases hr
      rw [List.append_nil] at ha
      subst ha
      exact .inl ⟨wk.stops H' gd, p1 S' H' fw _ ⟨Dl, .lst acc, rfl, w1.h.nn hD, n1, h1, .lst r1⟩⟩
  · exact p1.elim
theorem de_lc2 {elt tg iter tg1 iter1 : Expr} {ifs ifs1 : List Expr} {scope : Scope} {own : List (Str × Nat)} {vs1 : List Nat} {pos : Pos} {its : Rho → Res (List D)} {t : D → Rho → Res Rho} {tt : Rho → Res Bool} {its1 : Rho → Res (List D)} {t1 : D → Rho → Res Rho} {tt1 : Rho → Res Bool} {fe : Rho → Res D}
    (hc : X.calm = true) (hN : X.N.Nodup) (hno : noOwn G') (hi : PI X tg iter (iD c G its)) (ok : BlkOk X.N X.env.scope scope own) (hv : ∀ i ∈ vs1, i ∈ own.map (·.2))
    (hg : ∀ (s : Shared) (H : Hp) (C : Addr) (cl : List (Str × Addr)) (fp : List Addr), PG (X.blk s H scope (compEnvC scope cl C X.env) fp) tg (gD c.calm G G' (own.map (·.2)) t)) (ht : ∀ (s : Shared) (H : Hp) (C : Addr) (cl : List (Str × Addr)) (fp : List Addr), PTs (X.blk s H scope (compEnvC scope cl C X.env) fp) ifs (tT c.calm G' tt))
    (hi1 : ∀ (s : Shared) (H : Hp) (C : Addr) (cl : List (Str × Addr)) (fp : List Addr), PI (X.blk s H scope (compEnvC scope cl C X.env) fp) tg1 iter1 (iD c.calm G' its1))
    (hg1 : ∀ (s : Shared) (H : Hp) (C : Addr) (cl : List (Str × Addr)) (fp : List Addr), PG (X.blk s H scope (compEnvC scope cl C X.env) fp) tg1 (gD c.calm G' G2 vs1 t1)) (ht1 : ∀ (s : Shared) (H : Hp) (C : Addr) (cl : List (Str × Addr)) (fp : List Addr), PTs (X.blk s H scope (compEnvC scope cl C X.env) fp) ifs1 (tT c.calm G2 tt1))
    (he : ∀ (s : Shared) (H : Hp) (C : Addr) (cl : List (Str × Addr)) (fp : List Addr), PE (X.blk s H scope (compEnvC scope cl C X.env) fp) elt (tV c.calm G2 fe)) (hs : ∀ x, foldedSetIterable iter X.env x = pure x := by intro _; rfl) (hs1 : ∀ env x, foldedSetIterable iter1 env x = pure x := by intro _ _; rfl) :
    PE X (.ListComp elt [⟨tg, iter, ifs, 0⟩, ⟨tg1, iter1, ifs1, 0⟩] scope pos) (tO c G (dLc2 its t tt its1 t1 tt1 fe (own.map (·.2)) vs1)) := pe_imp (pe_lc2 hc hN (pi_l hi) ok hv hg ht hi1 hg1 ht1 he hs hs1) (lc2_rd hno)
end
end Dx
end S_DxL
section S_DxK
set_option Elab.async false
set_option linter.all false
set_option maxRecDepth 100000
set_option maxHeartbeats 2000000
namespace Dx
open PySem L2 PyProof.Rows ClX
end Dx
namespace Dx
open PySem L2
theorem wipe_more {σ σ' : L2.St} {ks ks' : List Nat} (hs : ∀ i ∈ ks, i ∈ ks') (h : L2.wipe σ' ks = L2.wipe σ ks) : L2.wipe σ' ks' = L2.wipe σ ks' := by
  apply List.ext_getElem?
  intro k
  have e : (L2.wipe σ' ks)[k]? = (L2.wipe σ ks)[k]? := by rw [h]
  rw [wipe_get, wipe_get] at e ⊢
  by_cases hk : k ∈ ks
  · rw [if_pos hk, if_pos hk] at e
    rw [if_pos (hs k hk), if_pos (hs k hk)]; exact e
  · rw [if_neg hk, if_neg hk] at e
    rw [e]
theorem dg_more {X : Cx} {c : Cf} {G G' : List Ow} {tg : Expr} {ks ks' : List Nat} {t : D → Rho → Res Rho} (hs : ∀ i ∈ ks, i ∈ ks') (h : PG X tg (gD c G G' ks t)) : PG X tg (gD c G G' ks' t) := pg_imp h fun v σ H Q ⟨S0, H0, S, r, d, ok, hv, p⟩ => ⟨S0, H0, S, r, d, ok, hv, by
  unfold PostR at p ⊢
  split at p
  · rename_i r' hr
    exact fun σ' z ok' => p σ' (wipe_more hs z) ok'
  · exact p.elim⟩
end Dx
end S_DxK
section S_DxAA
set_option Elab.async false
set_option linter.all false
set_option maxRecDepth 100000
set_option maxHeartbeats 2000000
namespace Dx
open PySem L2
section
variable {X : Cx} {c : Cf} {L G G' : List Ow} {f f1 f2 : Rho → Res D} {a b e : Expr} {pos : Pos} {tg : Expr}
theorem RgC.up {i j s : Int} (h : 0 < s ∧ s < 1000 ∧ -1000000000000000000 < i ∧ i < 1000000000000000000 ∧ -1000000000000000000 < j ∧ j < 1000000000000000000) : RgC i j s (if i < j then (j - i - 1) / s + 1 else 0).toNat := by
  obtain ⟨h1, h2, h3, h4, h5, h6⟩ := h
  have hs : Builtin.Range.rangeSize i j s = ((if i < j then (j - i - 1) / s + 1 else 0).toNat : Int) := by
    unfold Builtin.Range.rangeSize
    rw [if_pos (by omega)]
    split
    · have : 0 ≤ (j - i - 1) / s := Int.ediv_nonneg (by omega) (by omega)
      omega
    · rfl
  refine ⟨by omega, by omega, ?_, hs⟩
  have hd : i < j → (j - i - 1) / s ≤ j - i - 1 := fun h => Int.ediv_le_self _ (by omega)
  have hd0 : i < j → 0 ≤ (j - i - 1) / s := fun h => Int.ediv_nonneg (by omega) (by omega)
  have hq : i < j → (j - i - 1) / s * s ≤ j - i - 1 := fun h => Int.ediv_mul_le _ (by omega)
  unfold Builtin.Range.small
  unfold Builtin.Range.rangeSize
  simp only [Builtin.Range.rangeFitsLong, Bool.and_eq_true, Bool.or_eq_true, decide_eq_true_eq, beq_iff_eq, show s > 0 from h1, if_true]
  split
  · rename_i hij
    have hd := hd hij
    have hd0 := hd0 hij
    have hq := hq hij
    generalize (j - i - 1) / s = q at *
    have e : (q + 1) * s = q * s + s := by rw [Int.add_mul, Int.one_mul]
    have e0 : 0 ≤ q * s := Int.mul_nonneg hd0 (by omega)
    try rw [e]
    generalize q * s = z at *
    omega
  · omega
def insI (p : Int) : List Int → List Int
  | [] => [p]
  | x :: xs => if x < p then x :: insI p xs else p :: x :: xs
def sortI : List Int → List Int
  | [] => []
  | x :: xs => insI x (sortI xs)
def sortID : D → Res D
  | .lst ds => match allInt ds with
    | some is => .ok (.lst ((sortI is).map D.int))
    | none => .bad
  | _ => .bad
end
section
variable {Q : D → Prop} {E : Str → List Str → List D → Prop} {i j s : Int}
theorem allInt_map : ∀ ns : List Int, allInt (ns.map D.int) = some ns
  | [] => rfl
  | n :: ns => by rw [List.map_cons, allInt, allInt_map ns]
theorem rs_sortI {ns : List Int} (q : Q (.lst ((sortI ns).map D.int))) : Rs (g1 sortID [.lst (ns.map D.int)]) Q E := by
  show Rs (match allInt (ns.map D.int) with | some is => Res.ok (.lst ((sortI is).map D.int)) | none => .bad) Q E
  rw [allInt_map]; exact q
theorem rs_g2 {g : Int → Int → Int} (q : Q (.int (g i j))) : Rs (g2 (intsD g) [.int i, .int j]) Q E := q
theorem rs_sum {ns : List Int} (q : Q (.int ns.sum)) : Rs (g1 sumD [.lst (ns.map D.int)]) Q E := by
  show Rs (match allInt (ns.map D.int) with | some is => Res.ok (.int is.sum) | none => .bad) Q E
  rw [allInt_map]; exact q
end
end Dx
end S_DxAA
section S_DxAB
set_option Elab.async false
set_option linter.all false
set_option maxRecDepth 100000
set_option maxHeartbeats 4000000
namespace Dx
open PySem L2 PyProof.Rows Srt SrtO
section
variable {prog : Program} {w : World} {A : Around} {E : Value → Shared → Prop} {s : Shared}
def IsRow (h : Heap) (v : Value) (k : List Key) : Prop := ∃ a o us n, v = .ref a ∧ h.get? a = some o ∧ o.cls = .type "tuple" ∧ o.data = .seq us.toArray n ∧ Vals (k.map kV) us
theorem IsRow.keeps {h h' : Heap} {v : Value} {k : List Key} (p : IsRow h v k) (kk : ∀ b o, h.get? b = some o → o.cls = .type "tuple" → h'.get? b = some o) : IsRow h' v k := by
  obtain ⟨a, o, us, n, e, ho, hc, hd, hv⟩ := p
  exact ⟨a, o, us, n, e, kk _ _ ho hc, hc, hd, hv⟩
end
end Dx
end S_DxAB
section S_DxAC
set_option Elab.async false
set_option linter.all false
set_option maxRecDepth 100000
set_option maxHeartbeats 4000000
namespace Dx
open PySem L2
section
variable {X : Cx} {c : Cf} {L G G' G'' : List Ow} {f f1 f2 : Rho → Res D} {a b e e2 e3 : Expr} {pos : Pos} {tg : Expr} {k : Nat}
def getE (d k e : D) : Res D := match d with
  | .dk ks vs => match keyD k with
    | some x => .ok ((getK ks vs x).getD e)
    | none => .bad
  | .dt ks vs => match keyT k with
    | some x => .ok ((getK ks vs x).getD e)
    | none => .bad
  | _ => .bad
abbrev FP := (Rho → Res D) × (Rho → Res D)
def dPairs : List FP → Rho → Res (List (D × D))
  | [], _ => .ok []
  | p :: ps, r => (p.1 r).bind fun k => (p.2 r).bind fun d => (dPairs ps r).bind fun kvs => .ok ((k, d) :: kvs)
def RpPs (c : Cf) (S : Hp) : List (V × V) → List (D × D) → Prop
  | [], [] => True
  | v :: vs, d :: ds => Rp c.K c.cm S v.1 d.1 ∧ Rp c.K c.cm S v.2 d.2 ∧ RpPs c S vs ds
  | _, _ => False
def mergeD : List Key → List D → List (D × D) → Res D
  | ks, vs, [] => .ok (.dk ks vs)
  | ks, vs, (k, d) :: kvs => match keyD k with
    | some x => mergeD (putV ks vs x d).1 (putV ks vs x d).2 kvs
    | none => .bad
def dDisp (ps : List FP) : Rho → Res D := fun r => (dPairs ps r).bind fun kvs => mergeD [] [] kvs
theorem RpPs.len {S : Hp} : ∀ {vs : List (V × V)} {ds : List (D × D)}, RpPs c S vs ds → vs.length = ds.length
  | [], [], _ => rfl
  | v :: vs, d :: ds, h => by simp [RpPs.len h.2.2]
  | [], _ :: _, h => h.elim
  | _ :: _, [], h => h.elim
def allBl : List D → Option (List Bool)
  | [] => some []
  | .bl b :: ds => match allBl ds with
    | some bs => some (b :: bs)
    | none => none
  | _ => none
def allD : D → Res D
  | .lst ds => match allBl ds with
    | some bs => .ok (.bl (bs.all id))
    | none => .bad
  | _ => .bad
def inKt (neg : Bool) (d e : D) : Res D := match e with
  | .kt ds => match inFlat d ds with
    | some b => .ok (.bl (if neg then !b else b))
    | none => .bad
  | _ => .bad
def PostM (c : Cf) (S0 H0 S : Hp) (G : List Ow) (σ : St) (x : Res Rho) (Q : St → Hp → Prop) : Prop := match x with
  | .ok r' => ∀ S' H', Ex S S' → EnvOk c S0 H0 G S' H' σ r' → Q σ H'
  | _ => False
def gM (c : Cf) (G : List Ow) (t : D → Rho → Res Rho) : TG := fun v σ H Q => ∃ S0 H0 S r d, EnvOk c S0 H0 G S H σ r ∧ Rp c.K c.cm S v d ∧ PostM c S0 H0 S G σ (t d r) Q
def gMs (c : Cf) (G : List Ow) (t : List D → Rho → Res Rho) : TGs := fun vs σ H Q => ∃ S0 H0 S r ds, EnvOk c S0 H0 G S H σ r ∧ RpA c.K c.cm S vs ds ∧ PostM c S0 H0 S G σ (t ds r) Q
theorem dgm_nil : PGs X [] (gMs c G tgNil) := pgs_imp pgs_nil fun vs σ H Q ⟨S0, H0, S, r, ds, ok, hv, p⟩ => by
  cases hv with
  | nil => exact ⟨rfl, p S H Ex.refl ok⟩
  | cons _ _ => exact p.elim
theorem dgm_cons {es : List Expr} {t : D → Rho → Res Rho} {u : List D → Rho → Res Rho} (h1 : PG X e (gM c G t)) (h2 : PGs X es (gMs c G u)) (hs : (assignEach (e :: es) X.env).map (·.2) = assign e X.env :: (assignEach es X.env).map (·.2) := by rfl) :
    PGs X (e :: es) (gMs c G (tgCons t u)) := pgs_imp (pgs_cons h1 h2 hs) fun vs σ H Q ⟨S0, H0, S, r, ds, ok, hv, p⟩ => by
  cases hv with
  | nil => exact p.elim
  | @cons v vs d ds hv hr =>
    refine ⟨v, vs, rfl, S0, H0, S, r, d, ok, hv, ?_⟩
    have p : PostM c S0 H0 S G σ ((t d r).bind (u ds)) Q := p
    cases ht : t d r with
    | ok r1 =>
      rw [ht] at p
      have p : PostM c S0 H0 S G σ (u ds r1) Q := p
      intro S1 H1 e1 ok1
      refine ⟨S0, H0, S1, r1, ds, ok1, hr.mono e1, ?_⟩
      cases hu : u ds r1 with
      | ok r2 =>
        rw [hu] at p
        exact fun S' H' e2 ok2 => p S' H' (e1.trans e2) ok2
      | err _ _ _ => rw [hu] at p; exact p.elim
      | bad => rw [hu] at p; exact p.elim
    | err _ _ _ => rw [ht] at p; exact p.elim
    | bad => rw [ht] at p; exact p.elim
theorem dgm_tup {es : List Expr} {kk n : Nat} {u : List D → Rho → Res Rho} (hc : X.calm = true) (h : PGs X es (gMs c G u)) (hn : (assignEach es X.env).length = n := by rfl) (hst : (assignEach es X.env).findIdx? (·.1) = none := by rfl) (hK : c.K = X.K := by rfl) :
    PG X (.Tuple es kk pos) (gM c G (tgT n u)) := pg_imp (pg_tup hc h hn hst) fun v σ H Q ⟨S0, H0, S, r, d, ok, hv, p⟩ => by
  unfold tgT at p
  cases hv with
  | @kt a xs ds q rr =>
    dsimp only at p
    by_cases hl : ds.length = n
    · rw [if_pos hl] at p
      exact ⟨a, xs, rfl, by rw [← hK]; exact ok.ex.t q, by rw [rr.length]; exact hl, S0, H0, S, r, ds, ok, rr, p⟩
    · rw [if_neg hl] at p; exact p.elim
  | @tup a xs ds q rr =>
    dsimp only at p
    by_cases hl : ds.length = n
    · rw [if_pos hl] at p
      exact ⟨a, xs, rfl, by rw [← hK]; exact .inl (.inl (ok.ex _ _ q)), by rw [rr.length]; exact hl, S0, H0, S, r, ds, ok, rr, p⟩
    · rw [if_neg hl] at p; exact p.elim
  | _ => exact p.elim
theorem ds_asgM {tg : Expr} {t : D → Rho → Res Rho} (hg : Gok c G) (he : PE X e (tV c G f)) (ht : PG X tg (gM c G t)) (hs : swapsWithSole [tg] e pos.line X.env = pure false := by rfl) (hw : swappedStores [tg] e X.env = pure none := by rfl)
    (h1 : (assignEach [tg] X.env).map (·.2) = [assign tg X.env] := by rfl) : PS X (.Assign [tg] e pos) (sD c L G G (asgF t f)) := ps_imp (ps_asg he ht hs hw h1) fun E σ H ⟨S0, H0, S, r, ok, p⟩ => st_seq hg ok p fun d v S1 H1 w1 o1 m1 p1 => by
  refine ⟨S0, H0, S1, r, d, o1, m1, ?_⟩
  cases ht : t d r with
  | ok r' => rw [ht] at p1; exact fun S' H' _ ok' => p1 σ S' H' ok'
  | err _ _ _ => rw [ht] at p1; exact p1.elim
  | bad => rw [ht] at p1; exact p1.elim
def parF3 (i j l : Nat) (f1 f2 f3 : Rho → Res D) : Rho → SR := fun r => liftS r (dCons f1 (dCons f2 (dCons f3 dNil)) r) fun ds => match ds with
  | [d, e, g] => .nx (((r.set i (some d)).set j (some e)).set l (some g))
  | _ => .bad
end
section
variable {Q : D → Prop} {E : Str → List Str → List D → Prop} {r : Rho} {f f1 f2 f3 : Rho → Res D} {d k e : D}
theorem allBl_map : ∀ bs : List Bool, allBl (bs.map D.bl) = some bs
  | [] => rfl
  | b :: bs => by rw [List.map_cons, allBl, allBl_map bs]
theorem rs_all {bs : List Bool} (q : Q (.bl (bs.all id))) : Rs (g1 allD [.lst (bs.map D.bl)]) Q E := by
  show Rs (match allBl (bs.map D.bl) with | some bs => Res.ok (.bl (bs.all id)) | none => .bad) Q E
  rw [allBl_map]; exact q
end
section
variable {N B C : Rho → Prop} {R : D → Prop} {E : Rho → Str → List Str → List D → Prop} {r : Rho} {f f1 f2 f3 : Rho → Res D} {i j l : Nat}
theorem ss_par3 (h : Rs (f1 r) (fun d => Rs (f2 r) (fun e => Rs (f3 r) (fun g => N (((r.set i (some d)).set j (some e)).set l (some g))) (E r)) (E r)) (E r)) : Ss (parF3 i j l f1 f2 f3 r) N R B C E :=
  ss_lift (rs_cons (h.impE (fun d q => rs_cons (q.impE (fun e q => rs_cons (q.impE (fun g q => rs_nil q) fun _ _ _ z => z)) fun _ _ _ z => z)) fun _ _ _ z => z))
end
end Dx
end S_DxAC
section S_DxAD
set_option Elab.async false
set_option linter.all false
set_option maxRecDepth 100000
set_option maxHeartbeats 2000000
namespace Dx
open PySem L2
section
variable {X : Cx} {c : Cf} {G : List Ow} {pos : Pos}
theorem de_strL {x y : Str} {j : Nat} (h : x = y) : PE X (.Constant (.str x) j pos) (tV c G (dC (.str y))) := by subst h; exact de_str
end
theorem log_small {i : Int} (h : 0 ≤ i) (h1 : i < 1000000000000) : i.natAbs.log2 < 1920 := by
  by_cases h0 : i.natAbs = 0
  · rw [h0]; decide
  · have : i.natAbs < 2 ^ 40 := by omega
    have := (Nat.log2_lt h0).mpr this
    omega
theorem num_ST {i : Int} (h : 0 ≤ i) : (toString i : Str) = Sg (TL.numL i.toNat) := by
  have e : i = ((i.toNat : Nat) : Int) := by omega
  refine TL.ext_tl ?_
  have := TL.tl_num i.toNat
  rw [← e] at this
  exact this
theorem lt_one {a b : Nat} : ([a] < [b]) ↔ a < b := by
  constructor
  · intro h
    cases h with
    | rel h => exact h
    | cons h => cases h
  · intro h; exact List.Lex.rel h
section
variable {Q : D → Prop} {E : Str → List Str → List D → Prop} {i j : Int} {a b l : List Nat} {r : Rho} {f : Rho → Res D} {g : Str → Rho → Res D} {acc : List Nat} {d : D}
theorem rs_strI (h : 0 ≤ i ∧ i < 1000000000000) (q : Q (.str (Sg (TL.numL i.toNat)))) : Rs (g1 strD [.int i]) Q E :=
  rs_guard (log_small h.1 h.2) (by show Q (.str (toString i)); rw [num_ST h.1]; exact q)
theorem rs_fmtI (h : 0 ≤ i ∧ i < 1000000000000) (q : Q (.str (Sg (TL.numL i.toNat)))) : Rs (fmtD (.int i)) Q E :=
  rs_guard (log_small h.1 h.2) (by show Q (.str (toString i)); rw [num_ST h.1]; exact q)
theorem rs_fmtS (h : a.length ≤ sizeLine) (q : Q (.str (Sg a))) : Rs (fmtD (.str (Sg a))) Q E := rs_guard (by rw [ST_len]; exact h) q
theorem rs_jnil (q : Q (.str (Sg acc))) : Rs (dJnil (Sg acc) r) Q E := q
theorem rs_jcons (h : Rs (f r) (fun d => Rs (asS d) (fun y => ∃ l, y = Sg l ∧ acc.length + l.length ≤ 100000 ∧ Rs (g (Sg (acc ++ l)) r) Q E) E) E) : Rs (dJcons f g (Sg acc) r) Q E :=
  Rs.bind (h.impE (fun d q => Rs.bind (q.impE (fun y q => by
    obtain ⟨l, rfl, h1, h2⟩ := q
    rw [ST_app]
    exact rs_guard (by rw [ST_len, List.length_append]; exact Nat.le_trans h1 sz5) h2) fun _ _ _ z => z)) fun _ _ _ z => z)
theorem rs_asSJ {l : List Nat} (h : acc.length + l.length ≤ 100000) (k : Rs (g (Sg (acc ++ l)) r) Q E) : Rs (asS (.str (Sg l))) (fun y => ∃ l, y = Sg l ∧ acc.length + l.length ≤ 100000 ∧ Rs (g (Sg (acc ++ l)) r) Q E) E := ⟨l, rfl, h, k⟩
theorem rs_dJoin (h : Rs (g (Sg []) r) Q E) : Rs (dJoin g r) Q E := h
theorem rs_ord {n : Nat} (q : Q (.int n)) : Rs (g1 ordX [.str (Sg [n])]) Q E := rs_guard (by rw [ST_len]; rfl) q
theorem rs_leS {m n : Nat} (q : Q (.bl (decide (m ≤ n)))) : Rs (leD (.str (Sg [m])) (.str (Sg [n]))) Q E := by
  show Q (.bl (!decide ([n] < [m])))
  rw [show (!decide ([n] < [m])) = decide (m ≤ n) from by
    rw [Bool.eq_iff_iff]
    simp only [Bool.not_eq_true', decide_eq_false_iff_not, decide_eq_true_eq, lt_one]
    omega]
  exact q
theorem inFlat_ints (i : Int) (ns : List Int) : inFlat (.int i) (ns.map D.int) = some (decide (i ∈ ns)) := by
  have e : flatDs (ns.map D.int) = some (ns.map V.int) := by
    induction ns with
    | nil => rfl
    | cons n ns ih => rw [List.map_cons, flatDs, ih]; rfl
  unfold inFlat
  rw [e]
  show some (inV (V.int i) (ns.map V.int)) = _
  congr 1
  induction ns with
  | nil => rfl
  | cons n ns ih =>
    have e : flatDs (ns.map D.int) = some (ns.map V.int) := by
      clear ih e
      induction ns with
      | nil => rfl
      | cons n ns ih => rw [List.map_cons, flatDs, ih]; rfl
    have ih := ih e
    unfold inV at ih ⊢
    rw [List.map_cons, List.any_cons, ih]
    show (decide (n = i) || decide (i ∈ ns)) = _
    by_cases h : n = i
    · subst h; simp
    · have h' : ¬ i = n := fun z => h z.symm
      simp [h, h']
theorem rs_inKI {neg : Bool} {ns : List Int} (q : Q (.bl (if neg then !decide (i ∈ ns) else decide (i ∈ ns)))) : Rs (inKt neg (.int i) (.kt (ns.map D.int))) Q E := by
  show Rs (match inFlat (.int i) (ns.map D.int) with | some b => Res.ok (D.bl (if neg then !b else b)) | none => .bad) Q E
  rw [inFlat_ints]; exact q
theorem rs_inI {ns : List Int} (q : Q (.bl (decide (i ∈ ns)))) : Rs (inD (.int i) (.lst (ns.map D.int))) Q E := by
  show Rs ((inLst (.int i) (ns.map D.int)).bind _) Q E
  unfold inLst
  rw [inFlat_ints]; exact q
theorem rs_ninI {ns : List Int} (q : Q (.bl (!decide (i ∈ ns)))) : Rs (ninD (.int i) (.lst (ns.map D.int))) Q E := by
  show Rs ((inLst (.int i) (ns.map D.int)).bind _) Q E
  unfold inLst
  rw [inFlat_ints]; exact q
end
abbrev TD := List (List Nat × D)
def kS (a : List Nat) : Key := .inr (Sg a)
theorem kS_inj {a b : List Nat} : kS a = kS b ↔ a = b := ⟨fun h => by injection h with h; exact ST_inj.mp h, fun h => by rw [h]⟩
def dkT (T : TD) : D := .dk (T.map fun p => kS p.1) (T.map (·.2))
def lk (T : TD) (a : List Nat) : Option D := (T.find? fun p => decide (p.1 = a)).map (·.2)
theorem lk_cons (p : List Nat × D) (T : TD) (a : List Nat) : lk (p :: T) a = if p.1 = a then some p.2 else lk T a := by
  unfold lk
  rw [List.find?_cons]
  by_cases h : p.1 = a
  · rw [if_pos h, decide_eq_true h]; rfl
  · rw [if_neg h, decide_eq_false h]
theorem getK_T (T : TD) (a : List Nat) : getK (T.map fun p => kS p.1) (T.map (·.2)) (kS a) = lk T a := by
  induction T with
  | nil => rfl
  | cons p T ih =>
    rw [List.map_cons, List.map_cons, getK, ih, lk_cons]
    by_cases h : p.1 = a
    · rw [if_pos (kS_inj.mpr h), if_pos h]
    · rw [if_neg (fun z => h (kS_inj.mp z)), if_neg h]
theorem lk_isSome {T : TD} {a : List Nat} : (lk T a).isSome = decide (a ∈ T.map (·.1)) := by
  induction T with
  | nil => rfl
  | cons p T ih =>
    rw [lk_cons, List.map_cons]
    by_cases h : p.1 = a
    · rw [if_pos h]; simp [h]
    · have h' : ¬ a = p.1 := fun z => h z.symm
      rw [if_neg h, ih]; simp [h']
section
variable {Q : D → Prop} {E : Str → List Str → List D → Prop} {T : TD} {a : List Nat} {d e : D} {r : Rho}
theorem rs_inTk {neg : Bool} (q : Q (.bl (if neg then !decide (a ∈ T.map (·.1)) else decide (a ∈ T.map (·.1))))) : Rs (inK neg (.str (Sg a)) (dkT T)) Q E := by
  show Q (.bl (if neg then !(getK (T.map fun p => kS p.1) (T.map (·.2)) (kS a)).isSome else (getK (T.map fun p => kS p.1) (T.map (·.2)) (kS a)).isSome))
  rw [getK_T, lk_isSome]; exact q
theorem rs_getET (q : Q ((lk T a).getD e)) : Rs (getE (dkT T) (.str (Sg a)) e) Q E := by
  show Q ((getK (T.map fun p => kS p.1) (T.map (·.2)) (kS a)).getD e)
  rw [getK_T]; exact q
theorem rs_dD0 (q : Q (dkT [])) : Rs (dD0 r) Q E := q
theorem rs_listTk (q : Q (.lst (T.map fun p => .str (Sg p.1)))) : Rs (g1 listK [dkT T]) Q E := by
  show Q (.lst ((T.map fun p => kS p.1).map keyOf))
  rw [List.map_map]; exact q
theorem rs_lenTk (q : Q (.int T.length)) : Rs (g1 lenK [dkT T]) Q E := by
  show Q (.int (T.map fun p => kS p.1).length)
  rw [List.length_map]; exact q
theorem rs_itTk {Q : List D → Prop} (q : Q (T.map fun p => .str (Sg p.1))) : Rs (itemsK (dkT T)) Q E := by
  show Q ((T.map fun p => kS p.1).map keyOf)
  rw [List.map_map]; exact q
end
section
variable {Q : D → Prop} {E : Str → List Str → List D → Prop} {r : Rho} {fk fv : Rho → Res D} {ps : List FP}
theorem rs_disp (h : Rs (dPairs ps r) (fun kvs => Rs (mergeD [] [] kvs) Q E) E) : Rs (dDisp ps r) Q E := Rs.bind h
theorem rs_pnil {Q : List (D × D) → Prop} (q : Q []) : Rs (dPairs [] r) Q E := q
theorem rs_pcons {Q : List (D × D) → Prop} (h : Rs (fk r) (fun k => Rs (fv r) (fun d => Rs (dPairs ps r) (fun kvs => Q ((k, d) :: kvs)) E) E) E) : Rs (dPairs ((fk, fv) :: ps) r) Q E :=
  Rs.bind (h.impE (fun k q => Rs.bind (q.impE (fun d q => Rs.bind (q.impE (fun _ z => z) fun _ _ _ z => z)) fun _ _ _ z => z)) fun _ _ _ z => z)
end
section
variable {Q : D → Prop} {E : Str → List Str → List D → Prop} {r : Rho} {i : Nat} {n f : Str} {ns : List Str} {vs : List D} {d : D}
theorem rs_isX {isM : Str → Option Bool} {b : Bool} (h1 : r[i]? = some (some (.obj n ns vs))) (h2 : isM n = some b) (q : Q (.bl b)) : Rs (dIsX isM i r) Q E := by
  unfold dIsX
  rw [h1]
  dsimp only
  rw [h2]
  exact q
theorem rs_xf (h1 : r[i]? = some (some (.obj n ns vs))) (h2 : lookF ns vs f = some d) (q : Q d) : Rs (dXf i f r) Q E := by
  unfold dXf
  rw [h1]
  dsimp only
  rw [h2]
  exact q
end
section
variable {N B C : Rho → Prop} {R : D → Prop} {E : Rho → Str → List Str → List D → Prop} {r : Rho} {t u : Rho → Res Bool} {F K : Rho → SR}
/-- if t or u: F else: K, one test after the other -/
theorem ss_ifo (h : Rs (t r) (fun a => (a = true → Ss (F r) N R B C E) ∧ (a = false → Ss (ifF u F K r) N R B C E)) (E r)) : Ss (ifF (dOr t u) F K r) N R B C E := by
  unfold ifF
  refine ss_lift ?_
  refine rs_orc (h.impE (fun a q => ⟨fun ha => ?_, fun ha => ?_⟩) fun _ _ _ z => z)
  · exact q.1 ha
  · have q := q.2 ha
    unfold ifF at q
    cases hu : u r with
    | ok b => rw [hu] at q; exact q
    | err n ns vs => rw [hu] at q; exact q
    | bad => rw [hu] at q; exact q
theorem ss_ifa (h : Rs (t r) (fun a => (a = true → Ss (ifF u F K r) N R B C E) ∧ (a = false → Ss (K r) N R B C E)) (E r)) : Ss (ifF (dAnd t u) F K r) N R B C E := by
  unfold ifF
  refine ss_lift ?_
  refine rs_andc (h.impE (fun a q => ⟨fun ha => ?_, fun ha => ?_⟩) fun _ _ _ z => z)
  · have q := q.1 ha
    unfold ifF at q
    cases hu : u r with
    | ok b => rw [hu] at q; exact q
    | err n ns vs => rw [hu] at q; exact q
    | bad => rw [hu] at q; exact q
  · exact q.2 ha
end
end Dx
end S_DxAD
section S_DxAE
set_option Elab.async false
set_option linter.all false
set_option maxRecDepth 100000
set_option maxHeartbeats 2000000
namespace Dx
open PySem L2
section
variable {X : Cx} {c : Cf} {L G G' : List Ow} {S0 H0 S H S' H' : Hp} {σ : St} {r : Rho} {e : Expr} {f : Rho → Res D} {pos apos cpos : Pos} {E : Env}
def asL : D → Res (List D)
  | .lst ds => .ok ds
  | _ => .bad
noncomputable def extF (i : Nat) (f : Rho → Res D) : Rho → SR := fun r => liftS r (ownL i r) fun ds => liftS r (f r) fun d => liftS r (asL d) fun es => guardS (ds.length + es.length ≤ sizeLine) (.nx (r.set i (some (.lst (ds ++ es)))))
theorem ds_ext (i : Nat) {x : Str} {pn : Pos} (hg : Gok c G) (k : kd G i = .o) (ho : PE X (.Name x pn) (tVar i)) (he : PE X e (tV c G f)) (hw : swapsWith (.Call (.Attribute (.Name x pn) "extend" apos) [e] [] cpos) none pos.line X.env = pure false := by rfl)
    (hbase : attributeBase (.Name x pn) "extend" X.env (eval (.Name x pn) X.env) = eval (.Name x pn) X.env := by rfl)
    (hfew : ((backTo cpos (starEach [e] X.env)).all (fun x => !x.1) && (backToKw cpos (keywordEach [] X.env)).all (fun x => x.1.isSome) && decide ([e].length + ([] : List Keyword).length + (if ([] : List Keyword).isEmpty then 0 else 1) < 30)) = true := by rfl)
    (hline : (apos.endLine == cpos.line) = true := by rfl) (hs : starEach [e] X.env = (false, eval e X.env) :: starEach [] X.env := by rfl) :
    PS X (.Expr (.Call (.Attribute (.Name x pn) "extend" apos) [e] [] cpos) pos) (sD c L G G (extF i f)) :=
  ps_imp (ps_expr (pe_bm PySem.F.plainAttrs_list PySem.F.slot_list_extend PySem.F.type_list_extend mt_extend ho (pa_cons he pa_nil hs) hbase hfew hline hs rfl) hw) fun E σ H ⟨S0, H0, S, r, ok, p⟩ => by
    obtain ⟨q, xs, ds, hd, z1, z2, z3, p1⟩ := of_ownL ok k p
    refine ⟨.ref q, z1, .inl ⟨rfl, xs, .inl (.inl z2)⟩, st_seq hg ok p1 fun d v S1 H1 w1 o1 m1 p2 => ?_⟩
    cases d with
    | lst es =>
      replace p2 : PostS c S0 H0 L G (guardS (ds.length + es.length ≤ sizeLine) (.nx (r.set i (some (.lst (ds ++ es)))))) E := p2
      obtain ⟨hl, p2⟩ := p2.gd
      cases m1 with
      | lst a1 r1 =>
        exact ⟨q, _, xs, _, rfl, rfl, w1.h _ _ z2, o1.ex _ _ a1, by rw [z3.length, r1.length]; exact hl, p2 σ S1 _ (o1.mut k hd z1 (.lst ((z3.mono w1.s).app r1)))⟩
    | _ => exact p2.elim
end
section
variable {Q : D → Prop} {E : Str → List Str → List D → Prop} {r : Rho} {f : Rho → Res D}
theorem rs_asL {Q : List D → Prop} {ds : List D} (q : Q ds) : Rs (asL (.lst ds)) Q E := q
end
section
variable {N B C : Rho → Prop} {R : D → Prop} {E : Rho → Str → List Str → List D → Prop} {r : Rho} {f : Rho → Res D} {i : Nat}
theorem ss_ext {ds : List D} (h1 : r[i]? = some (some (.lst ds))) (h : Rs (f r) (fun d => Rs (asL d) (fun es => ds.length + es.length ≤ sizeLine ∧ N (r.set i (some (.lst (ds ++ es))))) (E r)) (E r)) : Ss (extF i f r) N R B C E := by
  unfold extF
  refine ss_lift (Rs.of (a := ds) (by unfold ownL; rw [h1]) (ss_lift (h.impE (fun d q => ss_lift (q.impE (fun es q => ?_) fun _ _ _ z => z)) fun _ _ _ z => z)))
  rw [guardS_pos q.1]; exact q.2
end
end Dx
end S_DxAE
section S_DxAF
set_option Elab.async false
set_option linter.all false
set_option maxRecDepth 100000
set_option maxHeartbeats 4000000
namespace Dx
open PySem L2 PySem.Spec PyProof.Rows
end Dx
end S_DxAF
section S_DxAG
set_option Elab.async false
set_option linter.all false
set_option maxRecDepth 100000
set_option maxHeartbeats 4000000
namespace Dx
open PySem L2
end Dx
end S_DxAG
section S_DxAH
set_option Elab.async false
set_option linter.all false
set_option maxRecDepth 100000
set_option maxHeartbeats 2000000
namespace Dx
open PySem L2
theorem rs_lc2 {α : Type} {Q : D → Prop} {E : Str → List Str → List D → Prop} {r : Rho} {its its1 : Rho → Res (List D)} {t t1 : D → Rho → Res Rho} {fe : Rho → Res D} {vs vs1 : List Nat} (c : α → D) (g : α → List D) (xs : List α) (hi : Rs (its r) (fun ds => ds = xs.map c) E)
    (hs : ∀ x ∈ xs, ∃ r1, t (c x) (wipeR r vs) = .ok r1 ∧ Rs (its1 r1) (fun ds => lcLoop t1 dYes fe (wipeR r1 vs1) ds = .ok (g x)) nE) (hl : (xs.flatMap g).length ≤ sizeLine) (q : Q (.lst (xs.flatMap g))) : Rs (dLc2 its t dYes its1 t1 dYes fe vs vs1 r) Q E := by
  have go : ∀ ys : List α, (∀ x ∈ ys, x ∈ xs) → lc2Loop t dYes its1 t1 dYes fe vs1 (wipeR r vs) (ys.map c) = .ok (ys.flatMap g) := by
    intro ys
    induction ys with
    | nil => intro _; rfl
    | cons y ys ih =>
      intro h
      obtain ⟨r1, h1, h2⟩ := hs y (h y (by simp))
      obtain ⟨ds, h3, h4⟩ := h2.get
      rw [List.map_cons, lc2Loop, h1]
      dsimp only
      show (match its1 r1 with
        | .ok ds1 => _
        | _ => _) = _
      rw [h3]
      dsimp only
      rw [h4]
      dsimp only
      rw [ih fun x hx => h x (by simp [hx])]
      rfl
  refine Rs.bind (hi.impE (fun ds e => ?_) fun _ _ _ z => z)
  subst e
  rw [go xs fun x hx => hx]
  exact rs_guard hl q
end Dx
end S_DxAH
section S_DxAI
set_option Elab.async false
set_option linter.all false
set_option maxRecDepth 100000
set_option maxHeartbeats 2000000
namespace Dx
open PySem PySem.Spec L2 ItX PyProof.Rows
end Dx
end S_DxAI
section S_DxAJ
set_option Elab.async false
set_option linter.all false
set_option maxRecDepth 100000
set_option maxHeartbeats 2000000
namespace Dx
open PySem L2 ItX PyProof.Rows
section
variable {X : Cx} {c : Cf} {L G G' : List Ow} {f f1 : Rho → Res D} {fs gs : Rho → Res (List D)} {e o : Expr} {es : List Expr} {kws : List Keyword} {pos apos p : Pos} {C : Addr}
variable {k n : Nat} {fa : Addr} {fd : FuncData} {ps ks : List Str} {ms ms1 ms2 : List Bool} {rm : Bool} {F : List D → Res D}
theorem RpM.length {S H : Hp} : ∀ {ms : List Bool} {vs : List V} {ds : List D}, RpM c S H ms vs ds → vs.length = ms.length
  | [], vs, ds, h => by cases vs <;> cases ds <;> first | rfl | exact h.elim
  | b :: ms, vs, ds, h => by
    cases vs with
    | nil => cases b <;> cases ds <;> exact h.elim
    | cons v vs => cases ds with
      | nil => cases b <;> exact h.elim
      | cons d ds => cases b <;> exact congrArg Nat.succ (RpM.length h.2)
end
end Dx
end S_DxAJ
section S_DxAK
set_option Elab.async false
set_option linter.all false
set_option maxRecDepth 100000
set_option maxHeartbeats 2000000
namespace Dx
open PySem PySem.Spec L2 ItX PyProof.Rows
end Dx
end S_DxAK
section S_DxAL
set_option Elab.async false
set_option linter.all false
set_option maxRecDepth 100000
set_option maxHeartbeats 2000000
namespace Dx
open PySem PySem.Spec L2 ItX PyProof.Rows
theorem roomH_mark {j k : Nat} {A : Around} {v : Option Value} (r : Room k A) (h : j ≤ k) : L2H.RoomH j (A.mark v) := ⟨by have := r.dp; show A.depth + 3 * j + 5 < recursionLimit; omega, by have := r.un; show A.units + 16 * j + 200 < cLine; omega⟩
theorem _root_.L2H.RoomH.units {k : Nat} {A : Around} (r : L2H.RoomH k A) : A.units + 64 < cLine := by have := r.un; omega
end Dx
end S_DxAL
section S_DxAM
set_option Elab.async false
set_option linter.all false
set_option maxRecDepth 100000
set_option maxHeartbeats 2000000
namespace Dx
open PySem L2 ItX
end Dx
end S_DxAM
section S_DxAN
set_option Elab.async false
set_option linter.all false
set_option maxRecDepth 100000
set_option maxHeartbeats 2000000
namespace Dx
open PySem L2 ItX
open PyProof.Rows hiding St
end Dx
end S_DxAN
section S_DxAO
set_option Elab.async false
set_option linter.all false
set_option maxRecDepth 100000
set_option maxHeartbeats 2000000
namespace Dx
open PySem L2 ItX
open PyProof.Rows hiding St
section
variable {prog : Program} {w : World} {A : Around} {E : Value → Shared → Prop} {s : Shared} {K : PySem.W.Frag} {x C L f : Addr} {h₀ : Heap} {m : Str → Option Value} {ox : Obj} {od : Option Obj} {b : Value}
theorem fillsI_K {M : Model} {h : Heap} {cd : ClassData} {rest : List Value} (X : K.In h) (hc : PySem.W.clsIn K C = some cd) (hm : cd.mro = .ref C :: rest) (hs : PySem.W.findIn K (.ref C) "__iadd__" = some (some (.ref f))) : PySem.W.Looks M h (fillsInplaceSlot (.ref C) "add" true) true := by
  intro A Q E s k q
  unfold fillsInplaceSlot
  dsimp only
  refine wpAny_bind ((PySem.W.looks_clsIn X hc).andThen (f := fun cd => pure cd.mro) .now A _ E s k ?_)
  rw [hm, List.anyM_cons]
  refine wpAny_bind (wpAny_bind (PySem.W.looks_findIn X hs A _ E s k ?_))
  dsimp only
  rw [if_pos (show (!ownNameWrapper (.ref f) (dunderI "add")) = true from rfl)]
  refine wpAny_pure ?_
  rw [if_pos rfl]
  exact wpAny_pure q
theorem iadd_K {Q : Value → Shared → Prop} (fr : Fr h₀ L s.heap m) (X₀ : K.In h₀) (I : PySem.W.InstAt s.heap x ox C od) (hc : PySem.W.selfFirst K C = true) (hs : PySem.W.findIn K (.ref C) "__iadd__" = some (some (.ref f))) (hf : PySem.W.isFn K (.ref f) = true)
    (h : wpAny (model prog w) A (call (.ref f) [.ref x, b]) (PySem.W.CmpBack Q) E s) : wpAny (model prog w) A (inplaceOp .Add (.ref x) b) Q E s := by
  have X := X₀.keeps fr.keep
  obtain ⟨cd, hcd, hm⟩ := PySem.W.any_some hc
  obtain ⟨rest, hm⟩ : ∃ rest, cd.mro = .ref C :: rest := by
    cases q : cd.mro with
    | nil => rw [q] at hm; cases hm
    | cons a r => rw [q] at hm; exact ⟨r, by rw [List.head?_cons] at hm; cases (beq_iff_eq.mp hm); rfl⟩
  unfold inplaceOp
  refine wpAny_holding (wpAny_bind (I.type.here (wpAny_bind ((fillsI_K X hcd hm hs).here ?_))))
  rw [if_pos rfl]
  refine wpAny_bind (m := tryMethod (.ref x) _ b) ?_
  unfold tryMethod
  refine wpAny_bind (PySem.W.special_fn X I hs (beq_iff_eq.mp hf) (wpAny_mono h (fun v s' hv => ?_) fun _ _ e => e))
  cases v <;> first | exact hv.elim | exact wpAny_pure (wpAny_bind (wpAny_rule (wpAny_pure hv)))
end
def rem (H : Hp) (p : Addr) : Hp := fun a => if a = p then none else H a
theorem rem_same {H : Hp} {p : Addr} : rem H p p = none := if_pos rfl
theorem rem_ne {H : Hp} {p a : Addr} (h : a ≠ p) : rem H p a = H a := if_neg h
theorem rem_put {H : Hp} {p : Addr} {o : HO} (h : H p = some o) : upd (rem H p) p o = H := by
  funext a
  by_cases e : a = p
  · subst e; rw [upd_same, h]
  · rw [upd_ne e, rem_ne e]
theorem Ex.rem {S H : Hp} {p : Addr} (e : Ex S H) (n : S p = none) : Ex S (rem H p) := fun a o h => by
  have : a ≠ p := fun z => by subst z; rw [n] at h; cases h
  exact (e a o h).at (rem_ne this)
section
variable {c : Cf} {S0 H0 S H S' H' : Hp} {G : List Ow} {σ : St} {r : Rho}
/-- the own object in slot i is given away -/
theorem EnvOk.take (e : EnvOk c S0 H0 G S H σ r) {i : Nat} {d : D} {p : Addr} (k : kd G i = .o) (h : r[i]? = some (some d)) (hs : σ[i]? = some (some (.ref p))) (s3 : S p = none) (s4 : H0 p = none) : EnvOk c S0 H0 (G.set i .v) S (rem H p) σ (r.set i none) := by
  have sl : ∀ {j : Nat} {b : D}, (r.set i none)[j]? = some (some b) → i ≠ j ∧ r[j]? = some (some b) := fun {j b} hb => by
    rcases set_some hb with ⟨_, ea, _⟩ | ⟨ne, hb⟩
    · cases ea
    · exact ⟨ne, hb⟩
  have tk : Tk H (rem H p) := by
    obtain ⟨q, ho, t1, t2, _, _, t5⟩ := e.own k h
    rw [hs] at t1; cases t1
    exact Tk.but (A := [p]) (fun a ha => ⟨ho, by rw [List.mem_singleton.mp ha]; exact t2, t5.pl⟩) fun b u hb eb => by
      rw [rem_ne fun z => hb (List.mem_singleton.mpr z)]; exact eb
  refine ⟨⟨e.fwd.s, e.fwd.h.rem s4, e.fwd.sub.rem s3, e.fwd.new, e.fwd.tb.trans tk⟩, by rw [List.length_set]; exact e.len, fun j b hb => ?_, fun j l b b' q hj hl kj kl sj sl' => ?_, let ⟨A, hA⟩ := e.sto; ⟨A, ?_⟩⟩
  · obtain ⟨ne, hb⟩ := sl hb
    obtain ⟨v, h1, h2⟩ := e.slot j b hb
    refine ⟨v, h1, ?_⟩
    rw [kd_set_ne ne]
    cases kj : kd G j with
    | o =>
      rw [kj] at h2
      obtain ⟨q, ho, z1, z2, z3, z4, z5⟩ := h2
      subst z1
      have hq : q ≠ p := fun z => by subst z; exact ne (e.sep i j d b q h hb (isO_o k) (isO_o kj) hs h1)
      exact ⟨q, ho, rfl, by rw [rem_ne hq]; exact z2, z3, z4, z5⟩
    | i a =>
      rw [kj] at h2
      obtain ⟨z0, q, ho, z1, z2, z3, z4, z5⟩ := h2
      subst z1
      have hq : q ≠ p := fun z => by subst z; exact ne (e.sep i j d b q h hb (isO_o k) (by rw [kj]; trivial) hs h1)
      exact ⟨z0, q, ho, rfl, by rw [rem_ne hq]; exact z2, z3, z4, z5⟩
    | v => rw [kj] at h2; exact h2
    | b => rw [kj] at h2; exact h2
    | s P => rw [kj] at h2; exact h2
    | w => rw [kj] at h2; exact h2
    | j a0 fs0 => rw [kj] at h2; exact h2
    | x a C dd => rw [kj] at h2; exact h2
  · obtain ⟨n1, hj⟩ := sl hj
    obtain ⟨n2, hl⟩ := sl hl
    rw [kd_set_ne n1] at kj
    rw [kd_set_ne n2] at kl
    exact e.sep j l b b' q hj hl kj kl sj sl'
  · have np : ∀ a ∈ A, a ≠ p := fun a ha z => hA.own i d p h (isO_o k) hs (z ▸ ha)
    refine hA.sub (fun a ha => (hA.out a ha).1) (fun a ha => rem_ne (np a ha)) Ex.refl (fun j b q hj kj sj => ?_) fun j b kj hj => ?_
    · obtain ⟨n1, hj⟩ := sl hj
      rw [kd_set_ne n1] at kj
      exact hA.own j b q hj kj sj
    · obtain ⟨n1, hj⟩ := sl hj
      rw [kd_set_ne n1]
      exact ⟨rfl, hj, rfl⟩
theorem set_kd {G : List Ow} {i : Nat} (k : kd G i = .o) : (G.set i .v).set i .o = G := by
  rw [List.set_set]
  apply List.ext_getElem?
  intro j
  by_cases e : i = j
  · subst e
    have hl : i < G.length := Nat.lt_of_not_le fun z => by
      have : kd G i = .v := by
        show G.getD i .v = .v
        rw [List.getD_eq_getElem?_getD, List.getElem?_eq_none z]; rfl
      rw [this] at k; cases k
    rw [List.getElem?_set_self hl]
    have : kd G i = G[i] := by
      show G.getD i .v = _
      rw [List.getD_eq_getElem?_getD, List.getElem?_eq_getElem hl]; rfl
    rw [List.getElem?_eq_getElem hl, ← this, k]
  · rw [List.getElem?_set_ne e]
end
section
variable {X : Cx} {c : Cf} {L G G' : List Ow} {f f1 f2 f3 : Rho → Res D} {e a b : Expr} {pos p : Pos} {k : Nat} {fa C : Addr} {fd : FuncData} {ps : List Str} {F : List D → Res D} {n x : Str}
def gFld (K : PySem.W.Frag) (to : TE) (fl : Str) : TG := fun v σ H Q => to σ H fun x H1 => ∃ a C dx fs, x = V.ref a ∧ H1 a = some (.ins C dx fs) ∧ Cls K C ∧ NoAttr K C fl ∧ fs.length < 1000 ∧ Q σ (upd H1 a (.ins C dx (L2.putF fl v fs)))
theorem pg_fld {o : Expr} {fl : Str} {to : TE} {p' : Pos} (ho : PE X o to)
    (ha : ∀ v, assign (.Attribute o fl p') X.env v = (do
      let ov ← holding [v] (eval o X.env)
      standAt p'.atName
      holding [v, ov] (setAttr ov fl v)
      release [v, ov] []) := by intro _; rfl) : PG X (.Attribute o fl p') (gFld X.K to fl) := by
  refine ⟨fun pins s σ H v u Q I r h => ?_⟩
  rw [ha]
  refine wpAny_bind (wpAny_holding (thn (ho.run pins s σ H _ I h) fun ov s1 ⟨x, H1, I1, r1, a, C, dx, fs, ex, ea, c, n, l, q1⟩ => ?_))
  subst ex
  obtain rfl : ov = Value.ref a := r1
  refine wpAny_bind (wpAny_standAt (wpAny_bind (wpAny_holding (setattr_ok I1 ea c n l r fun s3 I3 => ?_))))
  exact wpAny_release ⟨σ, _, I3, q1⟩
def tgFld (i : Nat) (n fl : Str) : D → Rho → Res Rho := fun d r => match r[i]? with
  | some (some (.obj c ns vs)) => if c = n ∧ ns.length < 1000 then .ok (r.set i (some (.obj c (putN fl d ns vs).1 (putN fl d ns vs).2))) else .bad
  | _ => .bad
theorem dgm_fld (i : Nat) {fl : Str} {pn p' : Pos} (hcn : c.cm n = some C) (cl : Cls X.K C) (na : NoAttr X.K C fl) (k : isO (kd G i)) (ho : PE X (.Name x pn) (tVar i))
    (ha : ∀ v, assign (.Attribute (.Name x pn) fl p') X.env v = (do
      let ov ← holding [v] (eval (.Name x pn) X.env)
      standAt p'.atName
      holding [v, ov] (setAttr ov fl v)
      release [v, ov] []) := by intro _; rfl) : PG X (.Attribute (.Name x pn) fl p') (gM c G (tgFld i n fl)) := pg_imp (pg_fld ho ha) fun v σ H Q ⟨S0, H0, S, r, d, ok, hv, p⟩ => by
  unfold tgFld at p
  split at p
  · rename_i c' ns vs hr
    split at p
    · rename_i hc
      obtain ⟨rfl, hl⟩ := hc
      obtain ⟨q, ho', s1, s2, s3, s4, s5⟩ := ok.ownI k hr
      cases s5 with | @obj C' dx _ fs _ _ h1 h2 h3 =>
      rw [hcn] at h1; cases h1
      subst h2
      obtain ⟨z1, z2⟩ := putN_rp (fl := fl) hv h3
      refine ⟨.ref q, s1, q, C, dx, fs, rfl, s2, cl, na, by simpa using hl, p S _ Ex.refl ?_⟩
      exact ok.mutI k hr s1 (.obj hcn z1 z2)
    · exact p.elim
  · exact p.elim
theorem ds_par3O (i j l : Nat) {c' : Expr} {y z : Str} {px py pz pt pt2 : Pos} {kt k2 : Nat} (hg : Gok c G) (hc : X.calm = true) (hN : X.N.Nodup) (hi : X.N[i]? = some x) (hj : X.N[j]? = some y) (hl : X.N[l]? = some z) (hij : i ≠ j) (hil : i ≠ l) (hjl : j ≠ l) (hGi : i < G.length)
    (hx : X.env.scope.names.lookup x = some .local) (hy : X.env.scope.names.lookup y = some .local) (hz : X.env.scope.names.lookup z = some .local) (ha : PE X a (tO c G f1)) (hb : PE X b (tV c G f2)) (hcc : PE X c' (tV c G f3))
    (hw : swappedStores [.Tuple [.Name x px, .Name y py, .Name z pz] kt pt] (.Tuple [a, b, c'] k2 pt2) X.env = pure (some [x, y, z]))
    (hs : swapsWithSole [.Tuple [.Name x px, .Name y py, .Name z pz] kt pt] (.Tuple [a, b, c'] k2 pt2) pos.line X.env = pure false := by rfl)
    (hs1 : starEach [a, b, c'] X.env = (false, eval a X.env) :: starEach [b, c'] X.env := by rfl) (hs2 : starEach [b, c'] X.env = (false, eval b X.env) :: starEach [c'] X.env := by rfl) (hs3 : starEach [c'] X.env = (false, eval c' X.env) :: starEach [] X.env := by rfl) :
    PS X (.Assign [.Tuple [.Name x px, .Name y py, .Name z pz] kt pt] (.Tuple [a, b, c'] k2 pt2) pos) (sD c L G (((G.set i .o).set j .v).set l .v) (parF3 i j l f1 f2 f3)) :=
  ps_imp (ps_par3 hc hN hi hj hl hij hil hjl hx hy hz (pa_cons ha (pa_cons hb (pa_cons hcc pa_nil hs3) hs2) hs1) hw hs) fun E σ H ⟨S0, H0, S, r, ok, p⟩ => by
    have p' : PostS c S0 H0 L (((G.set i .o).set j .v).set l .v) (liftS r (f1 r) fun d => liftS r (f2 r) fun e => liftS r (f3 r) fun g => .nx (((r.set i (some d)).set j (some e)).set l (some g))) E := by
      unfold parF3 dCons dNil at p
      cases h1 : f1 r with
      | ok d =>
        rw [h1] at p
        cases h2 : f2 r with
        | ok e =>
          rw [h2] at p
          cases h3 : f3 r with
          | ok g => rw [h3] at p; exact p
          | err n ns vs => rw [h3] at p; exact p
          | bad => rw [h3] at p; exact p
        | err n ns vs => rw [h2] at p; exact p
        | bad => rw [h2] at p; exact p
      | err n ns vs => rw [h1] at p; exact p
      | bad => rw [h1] at p; exact p
    refine st_seq hg ok p' fun d v S1 H1 w1 o1 m1 p1 => st_seq hg o1 p1 fun e u S2 H2 w2 o2 m2 p2 => st_seq hg o2 p2 fun g t S3 H3 w3 o3 m3 p3 => ?_
    obtain ⟨q1, ho1, rfl, n1, ns1, hp1, h1⟩ := m1
    have e1 := ok.setO w1 i hGi n1 ns1 hp1 h1
    have e3 := ((e1.go w2).setV j m2).go w3 |>.setV l m3
    exact ⟨_, _, _, rfl, p3 _ S3 H3 e3⟩
end
end Dx
end S_DxAO
section S_DxAP
set_option Elab.async false
set_option linter.all false
set_option maxRecDepth 100000
set_option maxHeartbeats 2000000
namespace PySem
end PySem
namespace RZ
open PySem
open PySem.Sem (wp)
end RZ
end S_DxAP
section S_DxAQ
set_option Elab.async false
set_option linter.all false
set_option maxRecDepth 100000
set_option maxHeartbeats 2000000
namespace RZ
open PySem PySem.Spec PyProof.Rows L2
end RZ
end S_DxAQ
section S_DxAR
set_option Elab.async false
set_option linter.all false
set_option maxRecDepth 100000
set_option maxHeartbeats 2000000
namespace Dx
open PySem L2 ItX
open PyProof.Rows hiding St
end Dx
end S_DxAR
section S_DxAS
set_option Elab.async false
set_option linter.all false
set_option maxRecDepth 100000
set_option maxHeartbeats 2000000
namespace Dx
open PySem L2 ItX
open PyProof.Rows hiding St
end Dx
end S_DxAS
section S_DxAT
set_option Elab.async false
set_option linter.all false
set_option maxRecDepth 100000
set_option maxHeartbeats 2000000
namespace Dx
open PySem L2 ItX
open PyProof.Rows hiding St
end Dx
end S_DxAT
section S_DxAU
set_option Elab.async false
set_option linter.all false
set_option maxRecDepth 100000
set_option maxHeartbeats 2000000
namespace Dx
open PySem L2 ItX
open PyProof.Rows hiding St
end Dx
end S_DxAU
section S_DxAV
set_option Elab.async false
set_option linter.all false
set_option maxRecDepth 100000
set_option maxHeartbeats 2000000
namespace Dx
open PySem L2 ItX
open PyProof.Rows hiding St
def enumX (d : D) : Res (List D) := (itemsX d).bind fun ds => .ok (numd 0 ds)
end Dx
end S_DxAV
section S_DxAW
set_option Elab.async false
set_option linter.all false
set_option maxRecDepth 100000
set_option maxHeartbeats 2000000
namespace Dx
open PySem L2 HandSPX
open PyProof.Rows hiding St
end Dx
end S_DxAW
section S_DxAX
set_option Elab.async false
set_option linter.all false
set_option maxRecDepth 100000
set_option maxHeartbeats 2000000
namespace Dx
open PySem L2 PySem.Spec
open PyProof.Rows hiding St passOn frameOf
end Dx
end S_DxAX
section S_DxAY
set_option Elab.async false
set_option linter.all false
set_option maxRecDepth 100000
set_option maxHeartbeats 2000000
namespace Dx
open PySem L2
open PyProof.Rows hiding St
end Dx
end S_DxAY
section S_DxAZ
set_option Elab.async false
set_option linter.all false
set_option maxRecDepth 100000
set_option maxHeartbeats 2000000
namespace Dx
open PySem L2
open PyProof.Rows hiding St
section
variable {X : Cx} {c : Cf} {L G G' : List Ow} {σ : St} {S0 H0 S H S' H' : Hp} {r : Rho} {pos : Pos} {e : Expr}
theorem RmA.snoc {A : List Addr} {xs : List V} {row : List D} {v : V} {d : D} (h : RmA c.K c.cm A S xs row) (hv : RmV c.K c.cm A S v d) : RmA c.K c.cm A S (xs ++ [v]) (row ++ [d]) := by
  refine ⟨by rw [List.length_append, List.length_append, h.1]; rfl, fun i u b hu hb => ?_⟩
  by_cases hi : i < row.length
  · rw [List.getElem?_append_left (by rw [h.1]; exact hi)] at hu
    rw [List.getElem?_append_left hi] at hb
    exact h.2 i u b hu hb
  · rw [List.getElem?_append_right (by rw [h.1]; omega), h.1] at hu
    rw [List.getElem?_append_right (by omega)] at hb
    cases hz : i - row.length with
    | zero =>
      rw [hz] at hu hb
      cases hu; cases hb
      exact hv
    | succ n =>
      rw [hz] at hb
      simp at hb
theorem RmA.dropLast {A : List Addr} {xs : List V} {row : List D} (h : RmA c.K c.cm A S xs row) : RmA c.K c.cm A S xs.dropLast row.dropLast := by
  refine ⟨by rw [List.length_dropLast, List.length_dropLast, h.1], fun i u b hu hb => ?_⟩
  rw [List.getElem?_dropLast] at hu hb
  split at hu
  · split at hb
    · exact h.2 i u b hu hb
    · cases hb
  · cases hu
variable {a b : Expr} {f1 f2 : Rho → Res D} {p1 p2 : Pos}
end
end Dx
end S_DxAZ
section S_DxBA
set_option Elab.async false
set_option linter.all false
set_option maxRecDepth 100000
set_option maxHeartbeats 2000000
namespace Dx
open PySem L2
open PyProof.Rows hiding St
end Dx
end S_DxBA
section S_DxBB
set_option Elab.async false
set_option linter.all false
set_option maxRecDepth 100000
set_option maxHeartbeats 2000000
namespace Dx
open PySem L2
open PyProof.Rows hiding St
section
variable {X : Cx} {c : Cf} {L G G' : List Ow} {σ : St} {S0 H0 S H S' H' : Hp} {r : Rho} {pos : Pos} {e : Expr}
theorem RmV.plain {A : List Addr} {v : V} {d : D} (h : RmV c.K c.cm A S v d) (ho : isOwn d = false) : Rp c.K c.cm S v d := by
  rcases h with h | ⟨j, a, e, _⟩
  · exact h
  · subst e; cases ho
end
end Dx
end S_DxBB
section S_DxBC
set_option Elab.async false
set_option linter.all false
set_option maxRecDepth 100000
set_option maxHeartbeats 2000000
namespace Dx
open PySem L2
open PyProof.Rows hiding St
inductive ModR (K : PySem.W.Frag) : List DictEntry → List (Str × D) → Prop
  | nil : ModR K [] []
  | cons {h : Int} {x y : Str} {t : Tok} {u : Value} {r : List DictEntry} {v : V} {d : D} {rows : List (Str × D)} (h0 : x = y) (h2 : RelV v u) (h3 : ∀ (cm : CM) S, Rp K cm S v d) (h4 : ModR K r rows) :
      ModR K (⟨h, .str x t, u⟩ :: r) ((y, d) :: rows)
def ModD (K : PySem.W.Frag) (w : World) (a : Addr) (rows : List (Str × D)) : Prop := ∃ es n, KDict K w a es n ∧ ModR K es.toList rows
theorem ModD.mk {K : PySem.W.Frag} {w : World} {a : Addr} {es : List DictEntry} {n : Nat} {rows : List (Str × D)} (h1 : K.lookup a = some ⟨.type "dict", none, .dict es.toArray n, #[]⟩) (h2 : PySem.W.KeysLit w.params es) (h3 : (a == sysModules) = false) (h4 : ModR K es rows) :
    ModD K w a rows := ⟨_, n, ⟨h1, by simpa using h2, h3⟩, by simpa using h4⟩
end Dx
end S_DxBC
section S_DxBD
set_option Elab.async false
set_option linter.all false
set_option maxRecDepth 100000
set_option maxHeartbeats 2000000
namespace Dx
open PySem L2 ItX
open PyProof.Rows hiding St
end Dx
end S_DxBD
section S_DxBE
set_option Elab.async false
set_option linter.all false
set_option maxRecDepth 100000
set_option maxHeartbeats 2000000
namespace Dx
open PySem L2 ItX
open PyProof.Rows hiding St
end Dx
end S_DxBE
section S_DxBF
set_option Elab.async false
set_option linter.all false
set_option maxRecDepth 100000
set_option maxHeartbeats 2000000
namespace PySem
end PySem
namespace RZ
open PySem
open PySem.Sem (wp)
end RZ
end S_DxBF
section S_DxBG
set_option Elab.async false
set_option linter.all false
set_option maxRecDepth 100000
set_option maxHeartbeats 2000000
namespace RZ
open PySem PySem.Spec PyProof.Rows L2
end RZ
namespace Dx
open PySem L2
end Dx
end S_DxBG
section S_DxBH
set_option Elab.async false
set_option linter.all false
set_option maxRecDepth 100000
set_option maxHeartbeats 2000000
namespace Dx
open PySem L2
end Dx
end S_DxBH
section S_DxBI
set_option Elab.async false
set_option linter.all false
set_option maxRecDepth 100000
set_option maxHeartbeats 2000000
namespace Dx
open PySem L2
end Dx
end S_DxBI
section S_DxBJ
set_option Elab.async false
set_option linter.all false
set_option maxRecDepth 100000
set_option maxHeartbeats 2000000
namespace OT
open PySem PySem.SeqAt
/-- a bool as a number -/
def nbI (b : Bool) : Int := if b = true then 1 else 0
end OT
namespace Dx
open PySem L2 OT
/-- a number, and whether it is a bool -/
inductive NB where
  | i (n : Int)
  | b (x : Bool)
def NB.num : NB → Int
  | .i n => n
  | .b x => nbI x
def NB.v : NB → V
  | .i n => .int n
  | .b x => .bl x
def NB.d : NB → D
  | .i n => .int n
  | .b x => .bl x
end Dx
end S_DxBJ
section S_DxBK
set_option Elab.async false
set_option linter.all false
set_option maxRecDepth 100000
set_option maxHeartbeats 2000000
namespace L2
open PySem PySem.Spec PyProof.Rows
end L2
end S_DxBK
section S_DxBL
set_option Elab.async false
set_option linter.all false
set_option maxRecDepth 100000
set_option maxHeartbeats 2000000
namespace Dx
open PySem L2 ItX
open PyProof.Rows hiding St
end Dx
end S_DxBL
section S_DxBM
set_option Elab.async false
set_option linter.all false
set_option maxRecDepth 100000
set_option maxHeartbeats 2000000
namespace Dx
open PySem L2 ItX
end Dx
end S_DxBM
section S_DxBN
set_option Elab.async false
set_option linter.all false
set_option maxRecDepth 100000
set_option maxHeartbeats 2000000
namespace Dx
open PySem PySem.Spec L2 ItX PyProof.Rows
end Dx
end S_DxBN
section S_DxBO
set_option Elab.async false
set_option linter.all false
set_option maxRecDepth 100000
set_option maxHeartbeats 2000000
namespace Dx
open PySem PySem.Spec L2 ItX PyProof.Rows
end Dx
end S_DxBO
section S_DxBP
set_option Elab.async false
set_option linter.all false
set_option maxRecDepth 100000
set_option maxHeartbeats 2000000
namespace Dx
open PySem L2 ItX PyProof.Rows
abbrev KWs : List (Str × V) → List (Str × Value) → Prop := Paired fun (p : Str × V) (q : Str × Value) => p.1 = q.1 ∧ RelV p.2 q.2
theorem KWs.keys : ∀ {a : List (Str × V)} {b : List (Str × Value)}, KWs a b → b.map (·.1) = a.map (·.1)
  | _, _, .nil => rfl
  | _, _, .cons h t => by rw [List.map_cons, List.map_cons, KWs.keys t, h.1]
theorem KWs.zip : ∀ {ks : List Str} {vs : List V} {us : List Value}, Vals vs us → KWs (ks.zip vs) (ks.zip us)
  | [], _, _, _ => .nil
  | _ :: _, _, _, .nil => .nil
  | _ :: _, _, _, .cons h t => .cons ⟨rfl, h⟩ (KWs.zip t)
end Dx
end S_DxBP
section S_DxBQ
set_option Elab.async false
set_option linter.all false
set_option maxRecDepth 100000
set_option maxHeartbeats 2000000
namespace RZ
open PySem
end RZ
namespace Dx
open PySem PySem.Spec L2 ItX PyProof.Rows RZ
end Dx
end S_DxBQ
section S_DxBR
set_option Elab.async false
set_option linter.all false
set_option maxRecDepth 100000
set_option maxHeartbeats 2000000
namespace Dx
open PySem PySem.Spec L2 ItX PyProof.Rows
end Dx
end S_DxBR
section S_DxBS
set_option Elab.async false
set_option linter.all false
set_option maxRecDepth 100000
set_option maxHeartbeats 2000000
namespace Dx
open PySem L2
open PyProof.Rows hiding St
end Dx
end S_DxBS
section S_DxBT
set_option Elab.async false
set_option linter.all false
set_option maxRecDepth 100000
namespace Dx
open PySem PySem.Spec L2 ItX PyProof.Rows
end Dx
end S_DxBT
section S_DxBU
set_option Elab.async false
set_option linter.all false
set_option maxRecDepth 100000
set_option maxHeartbeats 2000000
namespace Dx
open PySem L2
open PyProof.Rows hiding St
/-- no generator stands between these frames -/
def ngF : List Frame → Prop
  | [] => True
  | .ret _ _ _ _ _ _ _ :: fs => ngF fs
  | .gen _ _ _ _ _ :: _ => False
theorem ngF.app : ∀ {as bs : List Frame}, ngF as → ngF bs → ngF (as ++ bs)
  | [], _, _, h => h
  | .ret _ _ _ _ _ _ _ :: as, _, h, h2 => ngF.app (as := as) h h2
  | .gen _ _ _ _ _ :: _, _, h, _ => h.elim
theorem ngF.split : ∀ {fs : List Frame}, ngF fs → splitAtGen fs = none
  | [], _ => rfl
  | .ret _ _ _ _ _ _ _ :: fs, h => by
    have z := ngF.split (fs := fs) h
    show (splitAtGen fs).map _ = none
    rw [z]
    rfl
  | .gen _ _ _ _ _ :: _, h => h.elim
def ngG : GenState → Prop
  | .suspended _ _ _ _ fs _ => ngF fs
  | _ => True
def ngE : End → Prop
  | .susp _ _ _ _ _ _ fs => ngF fs
  | _ => True
theorem ngE.st {e : End} (h : ngE e) : ngG e.genState := by
  cases e with
  | ret r => trivial
  | susp v g l k c p fs => exact h
def isSus : GenState → Bool
  | .suspended _ _ _ _ _ _ => true
  | _ => false
/-- a frame that stands there and does nothing -/
def deadF (F : Frame) : Frame := .ret (fun _ => .unsupported "") none false [] F.where_.1 F.where_.2 []
/-- it looks alike, and cannot be woken -/
def deadG : GenState → GenState
  | .suspended _ _ c p fs _ => .suspended (fun _ => .unsupported "") [] c p (fs.map deadF) false
  | x => x
theorem deadG.bare {x : GenState} (h : x.bare = true) : (deadG x).bare = true := by
  cases x <;> first | exact h | rfl
def ngs (a : Array GenState) : Prop := ∀ (i : Nat) (y : GenState), a[i]? = some y → ngG y
theorem ngs.push {a : Array GenState} {y : GenState} (h : ngs a) (hy : ngG y) : ngs (a.push y) := fun i z e => by
  rw [Array.getElem?_push] at e
  split at e
  · cases e; exact hy
  · exact h i z e
theorem ngs.set {a : Array GenState} {g : Nat} {y : GenState} (h : ngs a) (hy : ngG y) : ngs (a.setIfInBounds g y) := fun i z e => by
  rw [Array.getElem?_setIfInBounds] at e
  split at e
  · split at e
    · cases e; exact hy
    · cases e
  · exact h i z e
/-- the true entries put back -/
def rest (ρ : Nat → Option GenState) (s : Shared) : Shared := { s with gens := s.gens.mapIdx fun i y => (ρ i).getD y }
/-- the state has the dead entries -/
def DeadAt (ρ : Nat → Option GenState) (s : Shared) : Prop := ∀ i x, ρ i = some x → isSus x = true ∧ s.gens[i]? = some (deadG x)
section
variable {ρ : Nat → Option GenState} {s s' : Shared} {M : Model} {Γ : Ctx} {p : Pos}
theorem DeadAt.push (d : DeadAt ρ s) (y : GenState) : DeadAt ρ { s with gens := s.gens.push y } := fun i x h => by
  obtain ⟨h1, h2⟩ := d i x h
  refine ⟨h1, ?_⟩
  show (s.gens.push y)[i]? = _
  rw [Array.getElem?_push]
  have : i < s.gens.size := (Array.getElem?_eq_some_iff.mp h2).1
  rw [if_neg (by omega)]
  exact h2
theorem DeadAt.set (d : DeadAt ρ s) {g : Nat} (hg : ρ g = none) (y : GenState) : DeadAt ρ (s.setGen g y) := fun i x h => by
  obtain ⟨h1, h2⟩ := d i x h
  refine ⟨h1, ?_⟩
  have hne : g ≠ i := fun z => by rw [z, h] at hg; cases hg
  show (s.gens.setIfInBounds g y)[i]? = _
  rw [Array.getElem?_setIfInBounds_ne hne]
  exact h2
/-- those that sleep in s, but for U, are as they were in s' -/
def KeptG (U : Nat → Prop) (s s' : Shared) : Prop := ∀ (i : Nat) (x : GenState), ¬ U i → s.gens[i]? = some x → isSus x = true → s'.gens[i]? = some x
theorem KeptG.trans {U : Nat → Prop} {s1 : Shared} (a : KeptG U s s1) (b : KeptG U s1 s') : KeptG U s s' := fun i x u h z => b i x u (a i x u h z) z
end
end Dx
end S_DxBU
section S_DxBV
set_option Elab.async false
set_option linter.all false
set_option maxRecDepth 100000
set_option maxHeartbeats 2000000
namespace Dx
open PySem L2
open PyProof.Rows hiding St
open GenW
/-- the stretch ends so -/
def GRun (M : Model) (A : Around) (Φ : End → Shared → Prop) (c : Code) (t : Sem PySem.Fin) (fs : List Frame) (s : Shared) : Prop :=
  ∀ Γ p, Γ.code = c → Γ.Woken A → ∃ e s', Runs M Γ p t fs s e s' ∧ Φ e s'
section
variable {M : Model} {A : Around} {Φ : End → Shared → Prop} {c : Code} {fs : List Frame} {s : Shared} {env : Env} {K : Flow → Sem PySem.Fin} {J : Value → Sem PySem.Fin} {gd : Bool → Bool} {lv : List Value → List Value}
/-- what stands in the table can go on so -/
def GoG (M : Model) (A : Around) (Φ : End → Shared → Prop) (gs : GenState) (s : Shared) : Prop :=
  match gs with
  | .fresh c => GRun M A Φ c (M.den c) [] s
  | .suspended k _ c _ fs _ => GRun M A Φ c (k (.send .none)) fs s
  | _ => False
end
end Dx
end S_DxBV
section S_DxBW
set_option Elab.async false
set_option linter.all false
set_option maxRecDepth 100000
set_option maxHeartbeats 2000000
namespace Dx
open PySem L2
open PyProof.Rows hiding St
open GenW
def GoneN (s s' : Shared) : Prop := s.heap.objs.size ≤ s'.heap.objs.size ∧ ∀ p, p < s.heap.objs.size → s.heap.get? p = none → s'.heap.get? p = none
theorem GoneN.trans {a b c : Shared} (x : GoneN a b) (y : GoneN b c) : GoneN a c := ⟨Nat.le_trans x.1 y.1, fun p h e => y.2 p (Nat.lt_of_lt_of_le h x.1) (x.2 p h e)⟩
theorem GoneN.same {a b : Shared} (h : b.heap = a.heap) : GoneN a b := by
  refine ⟨by rw [h]; exact Nat.le_refl _, fun p _ e => by rw [h]; exact e⟩
theorem GoneN.push {s : Shared} {o : Obj} {s' : Shared} (h : s'.heap = s.heap.push o) : GoneN s s' := by
  refine ⟨by rw [h, Heap.size_push]; exact Nat.le_succ _, fun p hp e => ?_⟩
  rw [h, Heap.get?_push_ne _ _ _ (Nat.ne_of_lt hp)]
  exact e
def cutH (n : Nat) (h : Heap) : Heap := { h with objs := (h.objs.toList.take n).toArray }
def cutS (n : Nat) (s : Shared) : Shared := { s with heap := cutH n s.heap }
theorem cut_size {n : Nat} {h : Heap} (hn : n ≤ h.objs.size) : (cutH n h).objs.size = n := by
  show (h.objs.toList.take n).toArray.size = n
  rw [List.size_toArray, List.length_take, Array.length_toList]
  omega
structure GCt where
  P : Program
  w : World
  K : PySem.W.Frag
  mg : Str → Option Value
  base : Heap
  cm : CM
  N : List Str
  qual : Str
  scope : Scope
  f : Addr
  cd : Value
  outer : List Env
  n0 : Nat
  os : OsState
  k : Nat
  pn : List (Addr × Obj)
/-- a wake -/
structure GB where
  A : Around
  s : Shared
  S : Hp
  H : Hp
  U : List Nat
abbrev GCt.X (C : GCt) (b : GB) : Cx := gcxOf C.P C.w C.K C.mg C.base C.N C.qual C.scope C.f C.cd b.A C.outer (cutS C.n0 b.s) b.H noX C.pn
abbrev GCt.env (C : GCt) : Env := envOfC C.qual C.scope C.n0 C.f C.cd
abbrev GCt.cf (C : GCt) : Cf := cfE C.K C.cm false noX
structure GCt.Ok (C : GCt) (b : GB) : Prop where
  room : Room C.k (b.A.deeper C.env)
  fr : b.A.frames = some C.outer
  sz : C.n0 ≤ b.s.heap.objs.size
  os : b.s.os = C.os
theorem GCt.Ok.env {C : GCt} {b : GB} (h : C.Ok b) : (C.X b).env = C.env := by
  show envOfC C.qual C.scope (cutH C.n0 b.s.heap).objs.size C.f C.cd = _
  rw [cut_size h.sz]
theorem GCt.Ok.A {C : GCt} {b : GB} (h : C.Ok b) : (C.X b).A = b.A.deeper C.env := by
  show b.A.deeper (envOfC C.qual C.scope (cutH C.n0 b.s.heap).objs.size C.f C.cd) = _
  rw [cut_size h.sz]
/-- the entries of inner generators -/
def GlOk (b : GB) (gl : List (Nat × GenState)) (s : Shared) : Prop := b.s.gens.size ≤ s.gens.size ∧ ∀ q ∈ gl, s.gens[q.1]? = some q.2 ∧ isSus q.2 = true ∧ ngG q.2 ∧ (q.1 ∈ b.U ∨ b.s.gens.size ≤ q.1)
/-- the consumer's state as the generator is woken: what is pinned and what stands in the table is as it was -/
structure Wk (C : GCt) (b : GB) (pg : List (Addr × Obj)) (gl : List (Nat × GenState)) (S1 : Hp) : Prop where
  ok : C.Ok b
  e0 : Env0 C.P C.w C.K C.mg C.base b.A C.outer b.s b.H
  s : Ex S1 b.S
  h : Ex b.S b.H
  pin : ∀ q ∈ pg, b.s.heap.get? q.1 = some q.2 ∧ b.H q.1 = none
  gl : ∀ q ∈ gl, b.s.gens[q.1]? = some q.2 ∧ q.1 ∈ b.U
/-- what holds behind a stretch -/
structure Aft (C : GCt) (b : GB) (S1 H1 : Hp) (z : Shared) : Prop where
  fwd : Fwd b.S b.H S1 H1
  un : Un (frs C.outer) [] b.H H1 (cutH C.n0 b.s.heap) z.heap
  hok : HOk C.P C.w H1 z.heap
  os : z.os = C.os
  bare : AllBare z.gens
  gsz : b.s.gens.size ≤ z.gens.size
  pn : ∀ q ∈ C.pn, z.heap.get? q.1 = some q.2
/-- all that is still to be handed out; the end of a stretch -/
def Std (C : GCt) : List D → GB → End → Shared → Prop
  | [] => fun b e z => match e with
    | .ret r => r = .ok (.ret .none) ∧ ∃ S1 H1, Aft C b S1 H1 z
    | .susp _ _ _ _ _ _ _ => False
  | d :: ds => fun b e z => match e with
    | .ret _ => False
    | .susp v gd l k c p fs => (End.susp v gd l k c p fs).quiet = true ∧ ngF fs ∧ ∃ x S1 H1 pg gl, RelV x v ∧ Rp C.K C.cm S1 x d ∧ Aft C b S1 H1 z ∧
        (∀ q ∈ pg, z.heap.get? q.1 = some q.2 ∧ H1 q.1 = none ∧ C.n0 ≤ q.1 ∧ ∀ u, q.2.data ≠ .cell u) ∧ (∀ q ∈ C.pn, q ∈ pg) ∧ GlOk b gl z ∧
        ∀ b', Wk C b' pg gl S1 → GRun (model C.P C.w) b'.A (Std C ds b') c (k (.send .none)) fs b'.s
section
variable {C : GCt} {L G G' G'' : List Ow} {b : GB} {c : Code} {fs : List Frame} {gd : Bool → Bool}
theorem _root_.L2.Inv.gens {X : Cx} {pins : List (Addr × Obj)} {σ : L2.St} {H : Hp} {s : Shared} {a : Array GenState} (I : Inv X pins σ H s) (h : AllBare a) : Inv X pins σ H { s with gens := a } :=
  ⟨I.ok, I.os, h, I.base, I.loc, I.cell, I.free, I.freeC, I.pin, I.hok, I.len⟩
theorem GlOk.kept {gl : List (Nat × GenState)} {s s' : Shared} (h : GlOk b gl s) (k : KeptG (fun _ => False) s s') (hs : s.gens.size ≤ s'.gens.size) : GlOk b gl s' :=
  ⟨Nat.le_trans h.1 hs, fun q hq => let ⟨h1, h2, h3, h4⟩ := h.2 q hq; ⟨k q.1 q.2 (fun z => z) h1 h2, h2, h3, h4⟩⟩
end
end Dx
end S_DxBW
section S_DxBX
set_option Elab.async false
set_option linter.all false
set_option maxRecDepth 100000
set_option maxHeartbeats 2000000
namespace Dx
open PySem L2
open PyProof.Rows hiding St
open GenW
/-- no names of this def stand in cells -/
def NoCell (sc : Scope) : Prop := ∀ y ∈ sc.names, y.2 ≠ .cell ∧ y.2 ≠ .free
theorem NoCell.not {sc : Scope} (h : NoCell sc) {x : Str} (q : sc.names.lookup x = some .cell ∨ sc.names.lookup x = some .free) : False := by
  rcases q with q | q
  · exact (h _ (PySem.mem_of_lookup q)).1 rfl
  · exact (h _ (PySem.mem_of_lookup q)).2 rfl
/-- a list or a dict -/
def isLK : HO → Prop
  | .lst _ => True
  | .dK _ => True
  | _ => False
theorem isLK.pl {ho : HO} (l : isLK ho) : Pl ho := by
  cases ho with
  | lst xs => exact .lst
  | dK kvs => exact .dK
  | _ => exact l.elim
theorem isLK.at {P : Program} {w : World} {H H' : Hp} {h h' : Heap} {a : Addr} {ho : HO} (l : isLK ho) (x : ObjOk P w H h a ho) (k : ∀ o, h.get? a = some o → h'.get? a = some o) : ObjOk P w H' h' a ho := by
  cases ho with
  | lst xs => obtain ⟨z, its, n, r, e⟩ := x; exact ⟨z, its, n, r, k _ e⟩
  | dK kvs => obtain ⟨z, y, vs, r, ob, es, ep, e, c⟩ := x; exact ⟨z, y, vs, r, ob, es, ep, k _ e, c⟩
  | _ => exact l.elim
theorem isLK.obj {P : Program} {w : World} {H : Hp} {h : Heap} {a : Addr} {ho : HO} (l : isLK ho) (x : ObjOk P w H h a ho) : ∃ o, h.get? a = some o ∧ ∀ v, o.data ≠ .cell v := by
  cases ho with
  | lst xs => obtain ⟨z, its, n, r, e⟩ := x; exact ⟨_, e, fun v q => by cases q⟩
  | dK kvs => obtain ⟨z, y, vs, r, ob, es, ep, e, _, d, _⟩ := x; exact ⟨_, e, fun v q => by rw [d] at q; cases q⟩
  | _ => exact l.elim
section
variable {C : GCt} {L G G' : List Ow} {b b' : GB}
theorem GCt.Ok.loc (h : C.Ok b) : (C.X b).env.locals = C.n0 := cut_size h.sz
/-- own lists and dicts -/
def isLD : D → Bool
  | .lst _ => true
  | .dk _ _ => true
  | _ => false
def ownsOk : List Ow → Rho → Bool
  | .o :: G, some d :: r => isLD d && ownsOk G r
  | _ :: G, _ :: r => ownsOk G r
  | _, _ => true
theorem ownsOk.get : ∀ {G : List Ow} {r : Rho} {i : Nat} {d : D}, ownsOk G r = true → kd G i = .o → r[i]? = some (some d) → isLD d = true
  | [], _, i, d, _, h, _ => by
    have : kd [] i = .v := by simp [kd]
    rw [this] at h; cases h
  | _ :: _, [], i, d, _, _, h => by simp at h
  | k :: G, x :: r, 0, d, h, hk, hr => by
    have hk : k = .o := hk
    have hr : x = some d := by simpa using hr
    subst hk hr
    unfold ownsOk at h
    exact (Bool.and_eq_true_iff.mp h).1
  | k :: G, x :: r, i + 1, d, h, hk, hr => by
    have hk : kd G i = .o := by
      show G.getD i .v = .o
      have : (k :: G).getD (i + 1) .v = .o := hk
      simpa using this
    have hr : r[i]? = some (some d) := by simpa using hr
    refine ownsOk.get (i := i) (G := G) (r := r) ?_ hk hr
    cases k with
    | o =>
      cases x with
      | none => exact h
      | some y => exact (Bool.and_eq_true_iff.mp h).2
    | _ => exact h
end
end Dx
end S_DxBX
section S_DxBY
set_option Elab.async false
set_option linter.all false
set_option maxRecDepth 100000
set_option maxHeartbeats 2000000
namespace Dx
open PySem L2
open PyProof.Rows hiding St
open GenW
/-- what stands in the table hands out ds as soon as it is woken -/
def Asl (C : GCt) (ds : List D) (gs : GenState) (pg : List (Addr × Obj)) (gl : List (Nat × GenState)) (S1 : Hp) : Prop := ∀ b', Wk C b' pg gl S1 → GoG (model C.P C.w) b'.A (Std C ds b') gs b'.s
end Dx
end S_DxBY
section S_DxBZ
set_option Elab.async false
set_option linter.all false
set_option maxRecDepth 100000
set_option maxHeartbeats 2000000
namespace Dx
open PySem L2
open PyProof.Rows hiding St
open GenW
section
variable {X : Cx} {pins : List (Addr × Obj)}
/-- all that the consumer has is older than the generator -/
structure Young (X : Cx) (pins : List (Addr × Obj)) (n : Nat) : Prop where
  s0 : X.s_0.heap.objs.size ≤ n
  loc : X.env.locals < n
  cell : ∀ x c, X.env.cells.lookup x = some c → c < n
  pin : ∀ q ∈ X.pn ++ pins, q.1 < n
theorem Young.of {σ : L2.St} {H : Hp} {s : Shared} (I : Inv X pins σ H s) : Young X pins s.heap.objs.size := ⟨I.sz, I.lt, fun x c e => by
  obtain ⟨v, q⟩ := I.cell x c e
  exact q.lt, fun q hq => Heap.lt_size (I.pin q hq).1⟩
/-- .. as it stands at s -/
structure SlpAt (C : GCt) (a : Addr) (g : Nat) (go : Obj) (ds : List D) (gs : GenState) (pg : List (Addr × Obj)) (gl : List (Nat × GenState)) (S1 : Hp) (s : Shared) : Prop where
  asl : Asl C ds gs pg gl S1
  hpg : ∀ q ∈ pg, C.n0 ≤ q.1
  hgo : (a, go) ∈ pg
  hgs : s.gens[g]? = some gs
  hng : ngG gs
  hgl : ∀ q ∈ gl, s.gens[q.1]? = some q.2 ∧ isSus q.2 = true ∧ ngG q.2 ∧ q.1 ≠ g
  hsz : C.n0 ≤ s.heap.objs.size
  hos : s.os = C.os
end
end Dx
end S_DxBZ
section S_DxCA
set_option Elab.async false
set_option linter.all false
set_option maxRecDepth 100000
set_option maxHeartbeats 2000000
namespace Dx
open PySem L2
open PyProof.Rows hiding St
open GenW
/-- it stands still as long as it is not woken -/
theorem SlpAt.keep {C : GCt} {a : Addr} {g : Nat} {go : Obj} {ds : List D} {gs : GenState} {pg : List (Addr × Obj)} {gl : List (Nat × GenState)} {S1 : Hp} {s s' : Shared} (h : SlpAt C a g go ds gs pg gl S1 s) (hs : isSus gs = true) (k : KeptG (fun _ => False) s s') (hsz : GoneN s s') (hos : s'.os = s.os) : SlpAt C a g go ds gs pg gl S1 s' :=
  ⟨h.asl, h.hpg, h.hgo, k g gs (fun z => z) h.hgs hs, h.hng, fun q hq => let ⟨h1, h2, h3, h4⟩ := h.hgl q hq; ⟨k q.1 q.2 (fun z => z) h1 h2, h2, h3, h4⟩, Nat.le_trans h.hsz hsz.1, hos.trans h.hos⟩
end Dx
end S_DxCA
section S_DxCB
set_option Elab.async false
set_option linter.all false
set_option maxRecDepth 100000
set_option maxHeartbeats 2000000
namespace Dx
open PySem L2
open PyProof.Rows hiding St
open GenW
theorem Aft.unbase {C : GCt} {b : GB} {S4 H4 S1 H1 : Hp} {z : Shared} (f : Fwd b.S b.H S4 H4) (h : Aft C { b with S := S4 } S1 H1 z) : Aft C b S1 H1 z := ⟨f.unbase h.fwd, h.un, h.hok, h.os, h.bare, h.gsz, h.pn⟩
theorem Std.unbase {C : GCt} {b : GB} {S4 H4 : Hp} (f : Fwd b.S b.H S4 H4) : ∀ {ds : List D} {e : End} {z : Shared}, Std C ds { b with S := S4 } e z → Std C ds b e z
  | [], .ret r, z, ⟨h, S1, H1, a⟩ => ⟨h, S1, H1, a.unbase f⟩
  | [], .susp _ _ _ _ _ _ _, z, h => h.elim
  | d :: ds, .ret r, z, h => h.elim
  | d :: ds, .susp v gd l k c p fs, z, ⟨h1, h2, x, S1, H1, pg, gl, h3, h4, a, h5, h6, h7, h8⟩ => ⟨h1, h2, x, S1, H1, pg, gl, h3, h4, a.unbase f, h5, h6, h7, h8⟩
section
variable {C : GCt} {L G G' : List Ow} {b : GB}
theorem GCt.Ok.S {S4 : Hp} (h : C.Ok b) : C.Ok { b with S := S4 } := ⟨h.room, h.fr, h.sz, h.os⟩
end
end Dx
end S_DxCB
section S_DxCC
set_option Elab.async false
set_option linter.all false
set_option maxRecDepth 100000
set_option maxHeartbeats 2000000
namespace Dx
open PySem L2
open PyProof.Rows hiding St
open GenW
end Dx
end S_DxCC
section S_DxCD
set_option Elab.async false
set_option linter.all false
set_option maxRecDepth 100000
set_option maxHeartbeats 2000000
namespace Dx
open PySem L2
open PyProof.Rows hiding St
open GenW
end Dx
end S_DxCD
section S_DxCE
set_option Elab.async false
set_option linter.all false
set_option maxRecDepth 100000
set_option maxHeartbeats 2000000
namespace L2N
open PySem L2
/-- around a body nothing is let out -/
theorem takes0 {X : Cx} {W : WX} (h : ∀ cls d σ H, ¬ W cls d σ H := by exact fun _ _ _ _ z => z) : L2N.Takes X W := by
  rintro _ _ ⟨_, _, _, _, _, _, _, _, _, _, _, _, _, _, _, _, z⟩
  exact (h _ _ _ _ z).elim
end L2N
namespace Dx
open PySem PySem.Spec L2 ItX PyProof.Rows
section
variable {X : Cx} {c : Cf} {L G G' : List Ow} {tg : Expr} {pos : Pos} {a : Expr}
theorem hot_suite {X : Cx} {a : Addr} {oe : Obj} {pn : List (Addr × Obj)} {C d : Addr} (hz : L2N.Zn (.ref C) (some d) oe) (hf : ∃ vs, oe.data = .fields vs) : L2H.HotC (X.suite a ((a, oe) :: pn)) := by
  obtain ⟨vs, hv⟩ := hf
  exact ⟨(a, oe), ⟨rfl, vs, hv, hz.2.2 vs hv⟩, List.mem_cons_self⟩
end
section
variable {X : Cx} {c : Cf} {G : List Ow} {e : Expr} {es : List Expr} {pos p : Pos} {k : Nat} {fa : Addr} {fd : FuncData} {ps : List Str} {ms : List Bool} {rm : Bool} {F : List D → Res D} {x : Str} {fs : Rho → Res (List D)}
theorem de_callH (F1 : L2H.FnH X.prog X.w X.K X.mg X.base (L2N.CX X.prog X.w) k fa fd ps (spD c.K c.cm ms rm F)) (tk : L2N.Takes X c.W) (hr : L2H.RoomH k X.A) (hc : L2H.HotC X) (hg : Gl X x) (hm : X.mg x = some (.ref fa)) (hk : PySem.W.keepIn X.K (.ref fa) = true) (hb : L2.Binds X.K fd ps [])
    (ha : PA X (e :: es) (tM c G ms fs)) (hdb : (x == ("__debug__" : Str)) = false := by decide) (he : starEach (e :: es) X.env = (false, eval e X.env) :: starEach es X.env := by rfl) (hpl : (backTo pos (starEach es X.env)).any (·.1) = false := by rfl) :
    PE X (.Call (.Name x p) (e :: es) [] pos) (rd c G (dCall F fs) (mR c rm)) :=
  pe_imp (L2H.pe_callH (E := fun σ cls d H => c.W cls d σ H) F1 hr hc hg hm hk hb (fun σ => L2N.passAt tk σ) ha hdb he hpl) fun σ H Q ⟨S0, H0, S, r, ok, q⟩ => rd_seq ok q fun ds vs S1 H1 w1 o1 m1 p1 =>
    call_rd (fun _ _ _ h => h) o1.ex m1 (p1.anti w1.h)
theorem de_callHV (F1 : L2H.FnH X.prog X.w X.K X.mg X.base (L2N.CX X.prog X.w) k fa fd ps (spD c.K c.cm ms false F)) (tk : L2N.Takes X c.W) (hr : L2H.RoomH k X.A) (hc : L2H.HotC X) (hg : Gl X x) (hm : X.mg x = some (.ref fa)) (hk : PySem.W.keepIn X.K (.ref fa) = true) (hb : L2.Binds X.K fd ps [])
    (ha : PA X (e :: es) (tM c G ms fs)) (hdb : (x == ("__debug__" : Str)) = false := by decide) (he : starEach (e :: es) X.env = (false, eval e X.env) :: starEach es X.env := by rfl) (hpl : (backTo pos (starEach es X.env)).any (·.1) = false := by rfl) :
    PE X (.Call (.Name x p) (e :: es) [] pos) (tV c G (dCall F fs)) := de_callH F1 tk hr hc hg hm hk hb ha hdb he hpl
end
section
variable {P : Program} {w : World} {K : PySem.W.Frag} {mg : Str → Option Value} {base : Heap} {cm : CM}
theorem dokH {x qual : Str} {st : Stmt} {f : Addr} {fd : FuncData} {N ps : List Str} {k : Nat} {ms : List Bool} {rm : Bool} {G' : List Ow} {Fb : Rho → SR} (F : Fun K x qual st f fd) (S : FnScope N ps (defScope st)) (hm : ms.length = ps.length) (hn : ps.length ≤ N.length)
    (hb : ∀ (cdv : Value) (A : Around) (outer : List Env) (s : Shared) (H : Hp) (E : XK) (p : Addr × Obj), L2H.RoomH k (A.deeper (PyProof.Rows.envOfC qual (defScope st) s.heap.objs.size f cdv)) → L2H.HotC (L2H.cxH (L2N.CX P w) P w K mg base N qual (defScope st) f cdv A outer s H E p) →
      PSs (L2H.cxH (L2N.CX P w) P w K mg base N qual (defScope st) f cdv A outer s H E p) (defBody st) (sD (cfE K cm rm E) [] (G0 ms N.length) G' Fb)) :
    L2H.FnH P w K mg base (L2N.CX P w) (k + 1) f fd ps (spD K cm ms rm (runF N.length rm Fb)) := by
  obtain ⟨oc, od, kV, doc, pm, an, cdv, ct, osl, rfl, lk, hcd⟩ := F.ex
  refine L2H.fn_ofH lk hcd S (fun vs H Q E h => ?_) (fun A outer s H vs Q E p hot hr h => ?_)
  · obtain ⟨S, ds, _, m, _⟩ := h
    rw [m.len.1, hm]
  · obtain ⟨S, ds, ex, m, q⟩ := h
    refine ⟨_, hb cdv A outer s H E p hr ⟨p, hot, List.mem_cons_self⟩, S, H, S, startR N.length ds, env_start ex (RpM.cf (c := ⟨K, cm, fun _ _ _ _ => False, none, rm, fun _ _ => False⟩) (c' := cfE K cm rm E) rfl rfl m) (by omega), ?_⟩
    unfold runF at q
    cases hF : Fb (startR N.length ds) with
    | rt d =>
      rw [hF] at q
      show PostS _ _ _ _ _ (.rt d) _
      unfold PostS
      dsimp only
      cases rm with
      | true => exact fun p ho S' H' fw n ns hp hh => q S' H' fw _ ⟨p, ho, rfl, n, ns, hp, hh⟩
      | false => exact fun v S' H' fw hv => q S' H' fw v hv
    | nx r =>
      rw [hF] at q
      cases rm with
      | true => exact q.elim
      | false => exact fun σ' S' H' ok => q S' H' ok.fwd _ Rp.non
    | er r n ns vs =>
      rw [hF] at q
      exact fun C dd σ' S' H' fs h1 fw _ h2 h3 h4 => q C dd S' H' fs h1 fw h2 h3 h4
    | bk r => rw [hF] at q; exact q.elim
    | ct r => rw [hF] at q; exact q.elim
    | bad => rw [hF] at q; exact q.elim
end
end Dx
end S_DxCE
section S_DxCH
set_option Elab.async false
set_option linter.all false
set_option maxRecDepth 100000
set_option maxHeartbeats 2000000
namespace Dx
open PySem L2 PyProof.Rows
section
variable {X : Cx} {pins : List (Addr × Obj)} {σ : L2.St} {S H : Hp} {s : Shared} {cm : CM}
mutual
theorem nk_is (I : Inv X pins σ H s) (ex : Ex S H) : ∀ {d : D} {v : V} {u : Value} {k : NestedKey}, Rp X.K cm S v d → nkD d = some k → RelV v u → NestedIs s.heap k u
  | .non, _, _, _, h, q, r => by cases h; cases q; cases r; exact .none
  | .bl b, _, _, _, h, q, r => by cases h; cases q; cases r; exact .bool rfl
  | .int i, _, _, _, h, q, r => by cases h; cases q; obtain ⟨t, rfl⟩ := r; exact .int i t
  | .tup ds, _, _, _, h, q, r => by
    cases h with | @tup a xs _ hS rr =>
    cases r
    rw [nkD] at q
    obtain ⟨ks, h1, rfl⟩ := Option.map_eq_some_iff.mp q
    obtain ⟨its, rv, ⟨o, ho, hc, n, hd⟩, _⟩ := I.tuple (.inl (.inl (ex _ _ hS)))
    exact .tup ho hc hd (by simpa using nk_all I ex rr h1 rv)
  | .kt ds, _, _, _, h, q, r => by
    cases h with | @kt a xs _ hS rr =>
    cases r
    rw [nkD] at q
    obtain ⟨ks, h1, rfl⟩ := Option.map_eq_some_iff.mp q
    obtain ⟨its, rv, ⟨o, ho, hc, n, hd⟩, _⟩ := I.tuple (ex.t hS)
    exact .tup ho hc hd (by simpa using nk_all I ex rr h1 rv)
  | .str _, _, _, _, _, q, _ => by cases q
  | .lst _, _, _, _, _, q, _ => by cases q
  | .fz _, _, _, _, _, q, _ => by cases q
  | .dk _ _, _, _, _, _, q, _ => by cases q
  | .dt _ _, _, _, _, _, q, _ => by cases q
  | .dn _ _, _, _, _, _, q, _ => by cases q
  | .obj _ _ _, _, _, _, _, q, _ => by cases q
  | .own _, _, _, _, _, q, _ => by cases q
  | .st _ _, _, _, _, _, q, _ => by cases q
theorem nk_all (I : Inv X pins σ H s) (ex : Ex S H) : ∀ {ds : List D} {vs : List V} {us : List Value} {ks : List NestedKey}, RpA X.K cm S vs ds → nkL ds = some ks → Vals vs us → NestedAll s.heap ks us
  | [], _, _, _, h, q, r => by cases h; cases q; cases r; exact .nil
  | d :: ds, _, _, _, h, q, r => by
    cases h with | cons h1 h2 =>
    cases r with | cons r1 r2 =>
    rw [nkL] at q
    cases e1 : nkD d with
    | none => rw [e1] at q; cases q
    | some k =>
      cases e2 : nkL ds with
      | none => rw [e1, e2] at q; cases q
      | some ks =>
        rw [e1, e2] at q
        cases q
        exact .cons (nk_is I ex h1 e1 r1) (nk_all I ex h2 e2 r2)
end
theorem nkT_some {d : D} {k : NestedKey} (h : nkT d = some k) : nkD d = some k ∧ k.depth ≤ 8 ∧ ∃ ks, k = .tup ks := by
  unfold nkT at h
  split at h
  · rename_i ks e
    split at h
    · rename_i hd
      cases h
      exact ⟨e, hd, ks, rfl⟩
    · cases h
  · cases h
theorem nkT_is (I : Inv X pins σ H s) (ex : Ex S H) {d : D} {v : V} {k : NestedKey} (h : Rp X.K cm S v d) (q : nkT d = some k) : ∃ a, v = .ref a ∧ (nestedKind X.prog X.w).is s.heap k a := by
  obtain ⟨h1, h2, ks, rfl⟩ := nkT_some q
  have ref : ∃ a, v = .ref a := by
    cases d with
    | tup _ => cases h; exact ⟨_, rfl⟩
    | kt _ => cases h; exact ⟨_, rfl⟩
    | non => cases h1
    | bl _ => cases h1
    | int _ => cases h1
    | _ => cases h1
  obtain ⟨a, rfl⟩ := ref
  exact ⟨a, rfl, nk_is I ex h h1 rfl, h2⟩
theorem ext_at {q p : Addr} {ob : Obj} {es : List (NestedKey × Addr × V)} (I : Inv X pins σ H s) (h : Rd H q (.ext (dnP p ob es))) : p = q ∧ dnP p ob es s.heap := by
  have ok : ObjOk X.prog X.w H s.heap q (.ext (dnP p ob es)) := by
    rcases h with h | ⟨o, h⟩
    · exact I.hok q _ h
    · exact (I.hok q _ h).2
  obtain ⟨h1, _, st⟩ := ok
  refine ⟨?_, h1⟩
  apply Classical.byContradiction
  intro hne
  have h2 := st s.heap (PySem.W.hideAll s.heap [p]) h1 fun o e => PySem.W.hideAll_get _ e (by simp; exact fun z => hne z.symm)
  obtain ⟨_, _, o, _, _, _, ho, _⟩ := h2
  rw [PySem.W.hideAll_none _ (by simp)] at ho
  cases ho
theorem paired_get {α β : Type} {F : α → β → Prop} : ∀ {xs : List α} {ys : List β} {i : Nat} {x : α}, Paired F xs ys → xs[i]? = some x → ∃ y, ys[i]? = some y ∧ F x y
  | _, _, 0, _, .cons h _, e => by simp at e; subst e; exact ⟨_, by simp, h⟩
  | _, _, i + 1, x, .cons _ t, e => by
    obtain ⟨y, h1, h2⟩ := paired_get (i := i) (x := x) t (by simpa using e)
    exact ⟨y, by simpa using h1, h2⟩
  | _, _, _, _, .nil, e => by simp at e
theorem dn_at {q p : Addr} {ob : Obj} {es : List (NestedKey × Addr × V)} {ks : List D} (I : Inv X pins σ H s) (ex : Ex S H) (h : Rd H q (.ext (dnP p ob es))) (nk : NkOk es ks) (rk : RpA X.K cm S (es.map fun e => .ref e.2.1) ks) :
    p = q ∧ (q == sysModules) = false ∧ ∃ xs, Paired EntOk es xs ∧ s.heap.DictOfH (nestedKind X.prog X.w) q xs := by
  obtain ⟨rfl, hs, xs, o, eps, ep, rel, ho, hx, hd, he, eo⟩ := ext_at I h
  refine ⟨rfl, hs, xs, rel, o, eps, ep, ho, hx, hd, he X.w, fun x hx => ?_, ?_⟩
  · obtain ⟨i, hi⟩ := List.getElem?_of_mem hx
    have hl := Paired.length rel
    have hlt : i < es.length := by rw [hl]; exact (List.getElem?_eq_some_iff.mp hi).1
    obtain ⟨e, hei⟩ : ∃ e, es[i]? = some e := ⟨es[i], List.getElem?_eq_getElem hlt⟩
    have en : EntOk e x := by
      obtain ⟨y, hy, q⟩ := paired_get rel hei
      rw [hi] at hy; cases hy
      exact q
    obtain ⟨d, hd1, hr⟩ := rk.getV (i := i) (v := .ref e.2.1) (by rw [List.getElem?_map, hei]; rfl)
    have hk : nkT d = some e.1 := by
      have := congrArg (fun l => l[i]?) nk.eq
      simp only [List.getElem?_map, hei, hd1, Option.map_some] at this
      exact Option.some.inj this
    obtain ⟨a, ha, is⟩ := nkT_is I ex hr hk
    cases ha
    rw [← en.1, ← en.2.1]
    exact is
  · have : xs.map (·.1) = es.map (·.1) := by
      clear he hd hx ho ex nk rk h I
      induction rel with
      | nil => rfl
      | cons h _ ih => rw [List.map_cons, List.map_cons, ih, h.1]
    rw [this]
    exact nk.nd
end
end Dx
end S_DxCH
section S_DxCI
set_option Elab.async false
set_option linter.all false
set_option maxRecDepth 100000
set_option maxHeartbeats 2000000
namespace Dx
open PySem L2 PyProof.Rows
section
variable {X : Cx} {c : Cf} {L G G' : List Ow} {a b e : Expr} {pos : Pos} {f f1 f2 : Rho → Res D} {k : Nat}
/-- the key v, the dict at q -/
structure KeyAt (K : PySem.W.Frag) (cm : CM) (S H : Hp) (y x : V) (n : NestedKey) (q p : Addr) (ob : Obj) (es : List (NestedKey × Addr × V)) (d : D) (ks : List D) : Prop where
  ex : Ex S H
  key : Rp K cm S y d
  nk : nkT d = some n
  rd : Rd H q (.ext (dnP p ob es))
  ok : NkOk es ks
  keys : RpA K cm S (es.map fun e => .ref e.2.1) ks
  eq : x = .ref q
theorem KeyAt.at {K : PySem.W.Frag} {cm : CM} {S H : Hp} {y x : V} {n : NestedKey} {q p : Addr} {ob : Obj} {es : List (NestedKey × Addr × V)} {d : D} {ks : List D} {pins : List (Addr × Obj)} {σ : L2.St} {s : Shared} {u w : Value} (h : KeyAt K cm S H y x n q p ob es d ks) (hK : K = X.K) (I : Inv X pins σ H s) (ry : RelV y u) (rx : RelV x w) :
    w = .ref q ∧ p = q ∧ (q == sysModules) = false ∧ ∃ a, u = .ref a ∧ (nestedKind X.prog X.w).is s.heap n a ∧ ∃ xs, Paired EntOk es xs ∧ s.heap.DictOfH (nestedKind X.prog X.w) q xs := by
  subst hK
  obtain ⟨a, rfl, hk⟩ := nkT_is I h.ex h.key h.nk
  obtain ⟨hp, hs, xs, rel, dd⟩ := dn_at I h.ex h.rd h.ok h.keys
  have := h.eq
  subst this
  exact ⟨rx, hp, hs, a, ry, hk, xs, rel, dd⟩
end
end Dx
end S_DxCI
section S_DxCJ
set_option Elab.async false
set_option linter.all false
set_option maxRecDepth 100000
set_option maxHeartbeats 2000000
namespace Dx
open PySem L2 PyProof.Rows
end Dx
end S_DxCJ
section S_DxCK
set_option Elab.async false
set_option linter.all false
set_option maxRecDepth 100000
set_option maxHeartbeats 2000000
namespace Dx
open PySem L2
section
variable {c : Cf} {S0 H0 S H S' H' : Hp} {G : List Ow} {σ : L2.St} {r : Rho}
/-- a value, or what stays as it is -/
def VB (c : Cf) (G : List Ow) (S H0 : Hp) (j : Nat) (v : V) (d : D) : Prop := (kd G j = .v ∧ Rp c.K c.cm S v d) ∨ (kd G j = .b ∧ RpB c.K c.cm S H0 v d)
theorem VB.slot {c : Cf} {G : List Ow} {S H H0 : Hp} {j : Nat} {v : V} {d : D} (h : VB c G S H0 j v d) : SlotOk c H0 S H (kd G j) v d := by
  rcases h with ⟨h1, h2⟩ | ⟨h1, h2⟩
  · rw [h1]; exact h2
  · rw [h1]; exact h2
theorem VB.up {c : Cf} {G G' : List Ow} {S S' H0 H0' : Hp} {j : Nat} {v : V} {d : D} (h : VB c G S H0 j v d) (hk : kd G' j = kd G j) (e : Ex S S') (f : ∀ b o, H0 b = some o → H0' b = some o) : VB c G' S' H0' j v d := by
  rcases h with ⟨h1, h2⟩ | ⟨h1, h2 | ⟨p, ho, q1, q2, q3⟩⟩
  · exact .inl ⟨hk.trans h1, h2.mono e⟩
  · exact .inr ⟨hk.trans h1, .inl (h2.mono e)⟩
  · exact .inr ⟨hk.trans h1, .inr ⟨p, ho, q1, f _ _ q2, q3.mono e⟩⟩
theorem VB.of {c : Cf} {G : List Ow} {S H H0 : Hp} {j : Nat} {v : V} {d : D} (hk : kd G j = .v ∨ kd G j = .b) (h : SlotOk c H0 S H (kd G j) v d) : VB c G S H0 j v d := by
  rcases hk with hk | hk
  · rw [hk] at h; exact .inl ⟨hk, h⟩
  · rw [hk] at h; exact .inr ⟨hk, h⟩
end
section
variable {X : Cx} {c : Cf} {L G G' : List Ow} {e : Expr} {pos apos cpos : Pos} {f f1 : Rho → Res D} {k : Nat} {x fl n : Str} {i g : Nat} {C a q : Addr} {fs : List (Str × V)} {pn p' : Pos}
theorem Tk.un {H : Hp} {a : Addr} {o : HO} (pl : Pl o) : Tk (upd H a o) H := .butP (O := fun b => b = a) (fun b z => by subst z; exact ⟨o, upd_same, pl⟩) fun b u hb e => by
  rw [upd_ne hb] at e; exact e
end
end Dx
end S_DxCK
section S_DxCL
set_option Elab.async false
set_option linter.all false
set_option maxRecDepth 100000
set_option maxHeartbeats 2000000
namespace Dx
open PySem L2
section
variable {X : Cx} {c : Cf} {L G : List Ow} {pos apos cpos : Pos}
def revF (i : Nat) : Rho → SR := fun r => liftS r (ownL i r) fun ds => .nx (r.set i (some (.lst ds.reverse)))
theorem ds_rev (i : Nat) {x : Str} {pn : Pos} (k : kd G i = .o) (ho : PE X (.Name x pn) (tVar i))
    (hw : swapsWith (.Call (.Attribute (.Name x pn) "reverse" apos) [] [] cpos) none pos.line X.env = pure false := by rfl)
    (hbase : attributeBase (.Name x pn) "reverse" X.env (eval (.Name x pn) X.env) = eval (.Name x pn) X.env := by rfl) (hline : (apos.endLine == cpos.line) = true := by rfl) :
    PS X (.Expr (.Call (.Attribute (.Name x pn) "reverse" apos) [] [] cpos) pos) (sD c L G G (revF i)) := by
  refine ps_imp (ps_expr (pe_bm0 PySem.F.plainAttrs_list PySem.F.slot_list_reverse PySem.F.type_list_reverse mt_reverse ho hbase hline) hw) fun E σ H h => ?_
  obtain ⟨S0, H0, S, r, ok, p⟩ := h
  obtain ⟨q, xs, ds, hd, z1, z2, z3, p1⟩ := of_ownL ok k p
  exact ⟨.ref q, z1, .inl ⟨rfl, xs, .inl (.inl z2)⟩, q, xs, rfl, rfl, z2, p1 σ S _ (ok.mut k hd z1 (.lst z3.reverse))⟩
end
section
variable {r : Rho} {i g g1 g2 jb : Nat} {n f0 fl1 fl2 : Str} {f fk : Rho → Res D} {Fl F : Rho → SR} {N B C : Rho → Prop} {R : D → Prop} {E : Rho → Str → List Str → List D → Prop}
theorem ss_rev {ds : List D} (h1 : r[i]? = some (some (.lst ds))) (h : N (r.set i (some (.lst ds.reverse)))) : Ss (revF i r) N R B C E := by
  refine ss_lift (Rs.of (a := ds) ?_ h)
  unfold ownL; rw [h1]
end
end Dx
end S_DxCL
section S_DxCM
set_option Elab.async false
set_option linter.all false
set_option maxRecDepth 100000
set_option maxHeartbeats 2000000
namespace Dx
open PySem PySem.Spec L2 ItX PyProof.Rows
end Dx
end S_DxCM
section S_DxCN
set_option Elab.async false
set_option linter.all false
set_option maxRecDepth 100000
set_option maxHeartbeats 2000000
namespace Dx
open PySem PySem.Spec L2 PyProof.Rows
end Dx
end S_DxCN
section S_DxCO
set_option Elab.async false
set_option linter.all false
set_option maxRecDepth 100000
set_option maxHeartbeats 2000000
namespace Dx
open PySem L2
end Dx
end S_DxCO
section S_DxCP
set_option Elab.async false
set_option linter.all false
set_option maxRecDepth 100000
set_option maxHeartbeats 2000000
namespace Dx
open PySem L2
end Dx
end S_DxCP
section S_DxCQ
set_option Elab.async false
set_option linter.all false
set_option maxRecDepth 100000
set_option maxHeartbeats 2000000
namespace Dx
open PySem L2 PyProof.Rows
/-- H1 is H, or H with a new code object in the table at P -/
def LamK (P : Addr) (q : Str) (H H1 : Hp) : Prop := H1 = H ∨ ∃ ps ps' cN, H P = some (.tbl ps) ∧ H cN = none ∧ H1 = upd (upd H P (.tbl ps')) cN (LamX.CodeO cN q) ∧ LamX.TabS H1 P q
theorem LamK.nx {P : Addr} {q : Str} {H H1 : Hp} (k : LamK P q H H1) : Ex H H1 := fun a o e => by
  rcases k with rfl | ⟨ps, ps', cN, h1, h2, rfl, h3⟩
  · exact .mk e
  · have n1 : a ≠ cN := fun z => by rw [z, h2] at e; cases e
    by_cases hp : a = P
    · subst hp
      rw [h1] at e
      cases e
      exact ⟨ps', by rw [upd_ne n1, upd_same]⟩
    · exact .mk (by rw [upd_ne n1, upd_ne hp]; exact e)
theorem LamK.tk {P : Addr} {H H1 : Hp} (k : LamK P lamN H H1) : Tk H H1 := fun P' ⟨qs, e1, e2, e3⟩ => by
  rcases k with rfl | ⟨ps, ps', cN, h1, h2, rfl, h3⟩
  · exact ⟨qs, e1, e2, e3⟩
  · by_cases hp : P' = P
    · rw [hp]; exact h3
    · have n1 : P' ≠ cN := fun z => by rw [z, h2] at e1; cases e1
      refine ⟨qs, by rw [upd_ne n1, upd_ne hp]; exact e1, e2, fun pos cv hc => ?_⟩
      obtain ⟨cA, z1, z2⟩ := e3 pos cv hc
      refine ⟨cA, z1, ?_⟩
      have n2 : cA ≠ cN := fun z => by rw [z, h2] at z2; cases z2
      have n3 : cA ≠ P := fun z => by
        rw [z, h1] at z2
        exact LamX.codeO_ne ps (Option.some.inj z2).symm
      rw [upd_ne n2, upd_ne n3]
      exact z2
end Dx
end S_DxCQ
section S_DxCR
set_option Elab.async false
set_option linter.all false
set_option maxRecDepth 100000
set_option maxHeartbeats 2000000
namespace Dx
open PySem L2
def spT (K : PySem.W.Frag) (cm : CM) (P : Addr) (ms : List Bool) (rm : Bool) (F : List D → Res D) : Sp := fun vs H Q E => LamX.TabS H P lamN ∧ spD K cm ms rm F vs H Q E
end Dx
end S_DxCR
section S_DxCS
set_option Elab.async false
set_option linter.all false
set_option maxRecDepth 100000
set_option maxHeartbeats 2000000
namespace Dx
open PySem L2 PyProof.Rows
end Dx
end S_DxCS
section S_DxCT
set_option Elab.async false
set_option linter.all false
set_option maxRecDepth 100000
set_option maxHeartbeats 2000000
namespace Dx
open PySem L2
end Dx
end S_DxCT
section S_DxCU
set_option Elab.async false
set_option linter.all false
set_option maxRecDepth 100000
set_option maxHeartbeats 2000000
namespace Dx
open PySem L2
section
variable {X : Cx} {c : Cf} {G : List Ow} {e : Expr} {es : List Expr} {pos p : Pos} {x : Str} {k : Nat} {f : Addr} {fd : FuncData} {ps : List Str} {ms ms2 : List Bool} {rm : Bool} {F : List D → Res D} {fs : Rho → Res (List D)}
theorem RpM.app {S H : Hp} : ∀ {ms ms2 : List Bool} {vs vs2 : List V} {ds ds2 : List D}, RpM c S H ms vs ds → RpM c S H ms2 vs2 ds2 → RpM c S H (ms ++ ms2) (vs ++ vs2) (ds ++ ds2)
  | [], _, [], _, [], _, _, h => h
  | true :: ms, _, v :: vs, _, d :: ds, _, h, k => ⟨h.1, RpM.app h.2 k⟩
  | false :: ms, _, v :: vs, _, d :: ds, _, h, k => ⟨h.1, RpM.app h.2 k⟩
  | [], _, _ :: _, _, _, _, h, _ => h.elim
  | [], _, [], _, _ :: _, _, h, _ => h.elim
  | true :: _, _, [], _, _, _, h, _ => h.elim
  | true :: _, _, _ :: _, _, [], _, h, _ => h.elim
  | false :: _, _, [], _, _, _, h, _ => h.elim
  | false :: _, _, _ :: _, _, [], _, h, _ => h.elim
end
end Dx
end S_DxCU
section S_DxCV
set_option Elab.async false
set_option linter.all false
set_option maxRecDepth 100000
set_option maxHeartbeats 2000000
namespace Dx
open PySem L2 HandSPX
open PyProof.Rows hiding St
open GenW
end Dx
end S_DxCV
section S_DxCW
set_option Elab.async false
set_option linter.all false
set_option maxRecDepth 100000
set_option maxHeartbeats 2000000
namespace Dx
open PySem L2
section
variable {X : Cx} {c : Cf} {L G : List Ow} {f1 f2 f3 : Rho → Res D} {a b c' : Expr} {pos : Pos} {x : Str}
theorem ds_par3A (i j l : Nat) {y z : Str} {px py pz pt pt2 : Pos} {kt k2 : Nat} (hg : Gok c G) (hc : X.calm = true) (hN : X.N.Nodup) (hi : X.N[i]? = some x) (hj : X.N[j]? = some y) (hl : X.N[l]? = some z) (hij : i ≠ j) (hil : i ≠ l) (hjl : j ≠ l) (hGi : i < G.length) (hGj : j < G.length) (hGl : l < G.length)
    (hx : X.env.scope.names.lookup x = some .local) (hy : X.env.scope.names.lookup y = some .local) (hz : X.env.scope.names.lookup z = some .local) (ha : PE X a (tO c G f1)) (hb : PE X b (tO c G f2)) (hcc : PE X c' (tO c G f3))
    (hw : swappedStores [.Tuple [.Name x px, .Name y py, .Name z pz] kt pt] (.Tuple [a, b, c'] k2 pt2) X.env = pure (some [x, y, z]))
    (hs : swapsWithSole [.Tuple [.Name x px, .Name y py, .Name z pz] kt pt] (.Tuple [a, b, c'] k2 pt2) pos.line X.env = pure false := by rfl)
    (hs1 : starEach [a, b, c'] X.env = (false, eval a X.env) :: starEach [b, c'] X.env := by rfl) (hs2 : starEach [b, c'] X.env = (false, eval b X.env) :: starEach [c'] X.env := by rfl) (hs3 : starEach [c'] X.env = (false, eval c' X.env) :: starEach [] X.env := by rfl) :
    PS X (.Assign [.Tuple [.Name x px, .Name y py, .Name z pz] kt pt] (.Tuple [a, b, c'] k2 pt2) pos) (sD c L G (((G.set i .o).set j .o).set l .o) (parF3 i j l f1 f2 f3)) :=
  ps_imp (ps_par3 hc hN hi hj hl hij hil hjl hx hy hz (pa_cons ha (pa_cons hb (pa_cons hcc pa_nil hs3) hs2) hs1) hw hs) fun E σ H ⟨S0, H0, S, r, ok, p⟩ => by
    have p' : PostS c S0 H0 L (((G.set i .o).set j .o).set l .o) (liftS r (f1 r) fun d => liftS r (f2 r) fun e => liftS r (f3 r) fun g => .nx (((r.set i (some d)).set j (some e)).set l (some g))) E := by
      unfold parF3 dCons dNil at p
      cases h1 : f1 r with
      | ok d =>
        rw [h1] at p
        cases h2 : f2 r with
        | ok e =>
          rw [h2] at p
          cases h3 : f3 r with
          | ok g => rw [h3] at p; exact p
          | err n ns vs => rw [h3] at p; exact p
          | bad => rw [h3] at p; exact p
        | err n ns vs => rw [h2] at p; exact p
        | bad => rw [h2] at p; exact p
      | err n ns vs => rw [h1] at p; exact p
      | bad => rw [h1] at p; exact p
    refine st_seq hg ok p' fun d v S1 H1 w1 o1 m1 p1 => st_seq hg o1 p1 fun e u S2 H2 w2 o2 m2 p2 => st_seq hg o2 p2 fun g t S3 H3 w3 o3 m3 p3 => ?_
    obtain ⟨q1, ho1, rfl, n1, ns1, hp1, h1⟩ := m1
    obtain ⟨q2, ho2, rfl, n2, ns2, hp2, h2⟩ := m2
    obtain ⟨q3, ho3, rfl, n3, ns3, hp3, h3⟩ := m3
    have e1 := ok.setO w1 i hGi n1 ns1 hp1 h1
    have e2 := e1.setO w2 j (by rw [List.length_set]; exact hGj) n2 ns2 hp2 h2
    have e3 := e2.setO w3 l (by rw [List.length_set, List.length_set]; exact hGl) n3 ns3 hp3 h3
    exact ⟨_, _, _, rfl, p3 _ S3 H3 e3⟩
end
end Dx
end S_DxCW
section S_DxCX
set_option Elab.async false
set_option linter.all false
set_option maxRecDepth 100000
set_option maxHeartbeats 2000000
namespace Dx
open PySem L2
end Dx
end S_DxCX
section S_DxCY
set_option Elab.async false
set_option linter.all false
set_option maxRecDepth 100000
set_option maxHeartbeats 2000000
namespace Dx
open PySem L2
end Dx
end S_DxCY
section S_DxCZ
set_option Elab.async false
set_option linter.all false
set_option maxRecDepth 100000
set_option maxHeartbeats 2000000
namespace Dx
open PySem L2 ItX
section
variable {X : Cx} {c : Cf} {G : List Ow} {tg : Expr} {f : Rho → Res D} {pos : Pos}
theorem di_enumB (i : Nat) {x : Str} {p px tpos : Pos} {elts : List Expr} {kk : Nat} (hm : X.mg "enumerate" = none) (hg : Gl X "enumerate") (he : PE X (.Name x px) (tVar i)) (k : kd G i = .b) (hK : c.K = X.K := by rfl) (hs : starEach [.Name x px] X.env = (false, eval (.Name x px) X.env) :: starEach [] X.env := by rfl) :
    PI X (.Tuple elts kk tpos) (.Call (.Name "enumerate" p) [.Name x px] [] pos) (iD c G (dIt enumX (dVar i))) :=
  pi_imp (pi_or (pi_enum hg hm (pa_cons he pa_nil hs) hs) (pi_enT hg hm (pa_cons he pa_nil hs) hs)) fun σ H R ⟨S0, H0, S, r, ok, p⟩ => by
    obtain ⟨d, hd, p⟩ := of_dVar (p.unbind)
    obtain ⟨v, h1, h2⟩ := ok.slot i d hd
    rw [k] at h2
    have p1 := p.go ok.ex
    rw [← hK]
    cases d with
    | lst ds =>
      rcases h2 with h2 | ⟨q, ho, rfl, h3, h4⟩
      · cases h2 with | @lst q xs _ h rr =>
        exact .inl ⟨_, h1, q, xs, rfl, .inl (.inl (ok.ex _ _ h)), PostG.go (show PostG c σ S H (.ok (numd 0 ds)) _ from p1) ok.ex _ ⟨_, _, by rw [numd_len, ← rr.length]; exact walk_enum (K := c.K) (a := q) (xs := xs), fun S'' H'' e1 e2 _ => (show SqL c.K H'' q xs from .inl (.inl (e2 _ _ (e1 _ _ h)))), YOk.num rr⟩⟩
      · cases h4 with | @lst xs _ rr =>
        exact .inl ⟨_, h1, q, xs, rfl, .inl (.inl (ok.fwd.h _ _ h3)), PostG.go (show PostG c σ S H (.ok (numd 0 ds)) _ from p1) ok.ex _ ⟨_, _, by rw [numd_len, ← rr.length]; exact walk_enum (K := c.K) (a := q) (xs := xs), fun S'' H'' e1 e2 e3 => (show SqL c.K H'' q xs from .inl (.inl (e3 _ _ h3))), YOk.num rr⟩⟩
    | fz ds =>
      rcases h2 with h2 | ⟨q, ho, rfl, h3, h4⟩
      · cases h2 with | @fz q xs _ h rr =>
        exact .inl ⟨_, h1, q, xs, rfl, ok.ex.l h, PostG.go (show PostG c σ S H (.ok (numd 0 ds)) _ from p1) ok.ex _ ⟨_, _, by rw [numd_len, ← rr.length]; exact walk_enum (K := c.K) (a := q) (xs := xs), fun S'' H'' e1 e2 _ => (show SqL c.K H'' q xs from e2.l (e1.l h)), YOk.num rr⟩⟩
      · cases h4
    | kt ds =>
      rcases h2 with h2 | ⟨q, ho, rfl, h3, h4⟩
      · cases h2 with | @kt q xs _ h rr =>
        exact .inr ⟨_, h1, q, xs, rfl, ok.ex.t h, PostG.go (show PostG c σ S H (.ok (numd 0 ds)) _ from p1) ok.ex _ ⟨_, _, by rw [numd_len, ← rr.length]; exact walk_enT (K := c.K), fun S'' H'' e1 e2 _ => (show SqT c.K H'' q xs from e2.t (e1.t h)), YOk.num rr⟩⟩
      · cases h4
    | tup ds =>
      rcases h2 with h2 | ⟨q, ho, rfl, h3, h4⟩
      · cases h2 with | @tup q xs _ h rr =>
        exact .inr ⟨_, h1, q, xs, rfl, .inl (.inl (ok.ex _ _ h)), PostG.go (show PostG c σ S H (.ok (numd 0 ds)) _ from p1) ok.ex _ ⟨_, _, by rw [numd_len, ← rr.length]; exact walk_enT (K := c.K), fun S'' H'' e1 e2 _ => (show SqT c.K H'' q xs from .inl (.inl (e2 _ _ (e1 _ _ h)))), YOk.num rr⟩⟩
      · cases h4
    | _ => exact p1.elim
end
def spIo (K : PySem.W.Frag) (cm : CM) (F : List D → Res D) : Sp := fun vs H Q E => ∃ x o S v1 d d1, vs = [.ref x, v1] ∧ Ex S H ∧ H x = some o ∧ S x = none ∧ RpO K cm S o d ∧ RpB K cm S H v1 d1 ∧
  (match F [d, d1] with
  | .ok d' => ∀ S' H' o', Fwd S (rem H x) S' (rem H' x) → H' x = some o' → S' x = none → RpO K cm S' o' d' → Q (.ref x) H'
  | .err n ns vs => ∀ C dd S' H' fs, cm n = some C → Fwd S H S' H' → S' dd = some (.xd fs) → ns = fs.map (·.1) → RpA K cm S' (fs.map (·.2)) vs → E (.ref C) (some dd) H'
  | .bad => False)
def runIo (n : Nat) (f1 : Rho → Res D) (Fa Fb : Rho → SR) : List D → Res D
  | [d, d1] => (f1 (startR n [d, d1])).bind fun dj => (match Fa (((startR n [d]).set 2 (some dj))) with
    | .nx r2 => (match Fb r2 with
      | .nx r3 => (match r3[0]? with
        | some (some d') => .ok d'
        | _ => .bad)
      | _ => .bad)
    | _ => .bad)
  | _ => .bad
section
variable {P : Program} {w : World} {K : PySem.W.Frag} {mg : Str → Option Value} {base : Heap} {cm : CM}
/-- only the first slot is known: an own object at a told place -/
theorem env_one {c : Cf} {S H : Hp} {σ : St} {x : Addr} {o : HO} {d : D} {n : Nat} (ex : Ex S H) (hx : H x = some o) (sx : S x = none) (ho : RpO c.K c.cm S o d) (h0 : σ[0]? = some (some (.ref x))) (hl : σ.length = n) (hn : 0 < n) (ht : ∀ P q, c.tb P q → LamX.TabS (rem H x) P q := by intro _ _ z; exact False.elim z) : EnvOk c S (rem H x) (GI x [] n) S H σ (startR n [d]) := by
  have hH : upd (rem H x) x o = H := rem_put hx
  have e1 : Ex (rem H x) H := by rw [← hH]; exact (by have := Ex.new (H := rem H x) (p := x) (o := o) rem_same; rw [hH] at this ⊢; exact this)
  have tk : Tk (rem H x) H := by have := Tk.new (H := rem H x) (p := x) (o := o) rem_same; rw [hH] at this; exact this
  have fw : Fwd S (rem H x) S H := ⟨Ex.refl, e1, ex, fun a o h n => (by rw [n] at h; cases h), tk⟩
  have only : ∀ i e, (startR n [d])[i]? = some (some e) → i = 0 ∧ e = d := fun i e h => by
    have h := startR_some h
    cases i with
    | zero => exact ⟨rfl, by simpa using h.symm⟩
    | succ i => simp at h
  refine ⟨fw, by unfold startR; rw [hl]; simp; omega, fun i e h => ?_, fun i j e1 e2 p hi hj _ _ _ _ => ?_, ⟨[], .nil (fun i e hi => ?_) ht⟩⟩
  · obtain ⟨rfl, rfl⟩ := only i e h
    exact ⟨.ref x, h0, rfl, x, o, rfl, hx, sx, rem_same, ho⟩
  · rw [(only i _ hi).1, (only j _ hj).1]
  · obtain ⟨rfl, rfl⟩ := only i e hi
    exact ⟨fun _ h => (by cases h), fun h => (by cases h)⟩
theorem dokIo {x qual self y : Str} {st : Stmt} {f : Addr} {fd : FuncData} {N ps : List Str} {k : Nat} {rhs : Expr} {s2 s3 : Stmt} {p1 pos1 p3 pos3 : Pos} {f1 : Rho → Res D} {Fa Fb : Rho → SR} {G2 G3 : Addr → List Ow} (F : Fun K x qual st f fd) (S : FnScope N ps (defScope st)) (hps : ps.length = 2) (hn : 3 ≤ N.length)
    (hbody : defBody st = [.Assign [.Name y p1] rhs pos1, s2, s3, .Return (some (.Name self p3)) pos3]) (hG3 : ∀ a, kd (G3 a) 0 = .i a)
    (h1 : ∀ (cdv : Value) (A : Around) (outer : List Env) (s : Shared) (H : Hp) (E : XK), Room k (A.deeper (PyProof.Rows.envOfC qual (defScope st) s.heap.objs.size f cdv)) →
      ((cxOf (L2N.CX P w) P w K mg base N qual (defScope st) f cdv A outer s H E).N.Nodup ∧ (cxOf (L2N.CX P w) P w K mg base N qual (defScope st) f cdv A outer s H E).N[2]? = some y ∧ Loc (cxOf (L2N.CX P w) P w K mg base N qual (defScope st) f cdv A outer s H E).env.scope y ∧ swapsWith rhs (some (.Name y p1)) pos1.line (cxOf (L2N.CX P w) P w K mg base N qual (defScope st) f cdv A outer s H E).env = pure false ∧
        ((cxOf (L2N.CX P w) P w K mg base N qual (defScope st) f cdv A outer s H E).fn y = true ∨ (cxOf (L2N.CX P w) P w K mg base N qual (defScope st) f cdv A outer s H E).env.scope.names.lookup y = some .local) ∧
        PE (cxOf (L2N.CX P w) P w K mg base N qual (defScope st) f cdv A outer s H E) rhs (tO (cfE K cm false E) (G0 [true, true] N.length) f1) ∧ PE (cxOf (L2N.CX P w) P w K mg base N qual (defScope st) f cdv A outer s H E) (.Name self p3) (tVar 0)))
    (h2 : ∀ (cdv : Value) (A : Around) (outer : List Env) (s : Shared) (H : Hp) (E : XK) (a : Addr), Room k (A.deeper (PyProof.Rows.envOfC qual (defScope st) s.heap.objs.size f cdv)) →
      PS (cxOf (L2N.CX P w) P w K mg base N qual (defScope st) f cdv A outer s H E) s2 (sD (cfE K cm false E) [] ((GI a [] N.length).set 2 .o) (G2 a) Fa) ∧ PS (cxOf (L2N.CX P w) P w K mg base N qual (defScope st) f cdv A outer s H E) s3 (sD (cfE K cm false E) [] (G2 a) (G3 a) Fb)) :
    FnOk P w K mg base (L2N.CX P w) (k + 1) f fd ps (spIo K cm (runIo N.length f1 Fa Fb)) := by
  refine F.okN S (fun vs H Q E h => ?_) (fun cdv A outer s H vs Q E hr h => ?_)
  · obtain ⟨x, o, S, v1, d, d1, rfl, _⟩ := h
    rw [hps]
    rfl
  · obtain ⟨x, o, S, v1, d, d1, rfl, ex, hx, sx, ho, r1, q⟩ := h
    obtain ⟨a1, a2, a3, a4, a5, a6, a7⟩ := h1 cdv A outer s H E hr
    obtain ⟨b2, b3⟩ := h2 cdv A outer s H E x hr
    refine ⟨_, by rw [hbody]; exact pss_cons (ps_set a1 a2 a3 a6 a4 a5) (pss_cons b2 (pss_cons b3 (pss_one (ps_ret a7)))), ?_⟩
    have hst : (L2.start N [V.ref x, v1]).length = N.length := by unfold L2.start; simp; omega
    have hs0 : (L2.start N [V.ref x, v1])[0]? = some (some (.ref x)) := by unfold L2.start; rfl
    have e0 : EnvOk (cfE K cm false E) S H (G0 [true, true] N.length) S H (L2.start N [V.ref x, v1]) (startR N.length [d, d1]) := env_start (c := cfE K cm false E) (ms := [true, true]) ex ⟨.inr ⟨x, o, rfl, hx, ho⟩, r1, trivial⟩ (by show 2 ≤ _; omega)
    refine ⟨S, H, S, _, e0, ?_⟩
    unfold runIo at q
    dsimp only at q
    cases hf1 : f1 (startR N.length [d, d1]) with
    | bad => rw [hf1] at q; exact q.elim
    | err n ns vs =>
      rw [hf1] at q
      exact fun C dd S' H' fs h1 fw h2 h3 h4 => q C dd S' H' fs h1 fw h2 h3 h4
    | ok dj =>
      rw [hf1] at q
      have q : (match (match Fa (((startR N.length [d]).set 2 (some dj))) with
        | .nx r2 => (match Fb r2 with
          | .nx r3 => (match r3[0]? with
            | some (some d') => Res.ok d'
            | _ => .bad)
          | _ => .bad)
        | _ => .bad) with
        | .ok d' => ∀ S' H' o', Fwd S (rem H x) S' (rem H' x) → H' x = some o' → S' x = none → RpO K cm S' o' d' → Q (.ref x) H'
        | .err n ns vs => ∀ C dd S' H' fs, cm n = some C → Fwd S H S' H' → S' dd = some (.xd fs) → ns = fs.map (·.1) → RpA K cm S' (fs.map (·.2)) vs → E (.ref C) (some dd) H'
        | .bad => False) := q
      intro S1 H1 fw v hv
      obtain ⟨p, hp, rfl, n1, n2, n3, n4⟩ := hv
      have eA := (env_one (c := cfE K cm false E) (n := N.length) ex hx sx ho hs0 hst (by omega)).setO fw 2 (by unfold GI; simp; omega) n1 n2 n3 n4
      refine ⟨S, rem H x, S1, _, eA, ?_⟩
      cases hFa : Fa (((startR N.length [d]).set 2 (some dj))) with
      | nx r2 =>
        rw [hFa] at q
        dsimp only at q
        show PostS _ _ _ _ _ (.nx r2) _
        intro σ2 S2 H2 e2
        refine ⟨S, rem H x, S2, r2, e2, ?_⟩
        cases hFb : Fb r2 with
        | nx r3 =>
          rw [hFb] at q
          dsimp only at q
          intro σ3 S3 H3 e3
          cases h0 : r3[0]? with
          | none => rw [h0] at q; exact q.elim
          | some z =>
            rw [h0] at q
            cases z with
            | none => exact q.elim
            | some d' =>
              dsimp only at q
              obtain ⟨v', z1, z2⟩ := e3.slot 0 d' h0
              rw [hG3 x] at z2
              obtain ⟨z3, p', o', z4, z5, z6, z7, z8⟩ := z2
              subst z3
              cases z4
              have tk : Tk H3 (rem H3 x) := Tk.but (A := [x]) (fun a ha => ⟨o', by rw [List.mem_singleton.mp ha]; exact z5, z8.pl⟩) fun b u hb eb => by
                rw [rem_ne fun z => hb (List.mem_singleton.mpr z)]; exact eb
              exact ⟨_, z1, q S3 H3 o' ⟨e3.fwd.s, e3.fwd.h.rem rem_same, e3.fwd.sub.rem z6, e3.fwd.new, e3.fwd.tb.trans tk⟩ z5 z6 z8⟩
        | _ => rw [hFb] at q; exact q.elim
      | _ => rw [hFa] at q; exact q.elim
end
section
variable {X : Cx} {k : Nat} {fa C : Addr} {fd : FuncData} {ps : List Str} {sp : Sp} {Wx : WX} {pos : Pos}
theorem op_iadX (hc : PySem.W.selfFirst X.K C = true) (hm : L2.Meth X.K C "__iadd__" fa) (F1 : FnOk X.prog X.w X.K X.mg X.base (L2N.CX X.prog X.w) k fa fd ps sp) (hr : Room k X.A) (hb : L2.Binds X.K fd ps []) (tk : L2N.Takes X Wx) {pins : List (Addr × Obj)} {σ : St} {H : Hp} {s : Shared} {a dx : Addr} {fs : List (Str × V)} {y : V} {u : Value} {Q : VK}
    (I : Inv X pins σ H s) (ry : RelV y u) (ha : H a = some (.ins C dx fs)) (q : sp [.ref a, y] H Q (fun cls d H' => Wx cls d σ H')) : wpAny (model X.prog X.w) X.A (inplaceOp .Add (.ref a) u) (EP X pins σ Q) X.xe s := by
  obtain ⟨ox, od, J, _⟩ := ins_at I ha
  obtain ⟨m, hF⟩ := I.fr
  refine iadd_K hF I.ok.mod.kin J hc hm.at_ hm.fn (wpAny_mono (run_fnSD (E := fun σ cls d H' => Wx cls d σ H') (dvs := []) (us := [.ref a, u]) (vs := [.ref a, y]) F1 hr hb .nil (L2N.passAt tk σ) I (.cons rfl (.cons ry .nil)) q) (fun w s' z => ?_) fun _ _ x => x)
  obtain ⟨z', H', I', rz, qz⟩ := z
  exact SlX.cmpback rz ⟨z', H', I', rz, qz⟩
def tAugX (i j : Nat) (C : Addr) (sp : Sp) (Wx : WX) : TS := fun D σ H => ∃ a dx fs y, σ[i]? = some (some (.ref a)) ∧ σ[j]? = some (some y) ∧ H a = some (.ins C dx fs) ∧ sp [.ref a, y] H (fun z H2 => D.nx (σ.set i (some z)) H2) (fun cls d H' => Wx cls d σ H')
theorem ps_augX (i j : Nat) {x y : Str} {px py : Pos} (hN : X.N.Nodup) (hi : X.N[i]? = some x) (hx : Loc X.env.scope x) (he : PE X (.Name y py) (tVar j)) (sf : PySem.W.selfFirst X.K C = true) (hm : L2.Meth X.K C "__iadd__" fa) (F1 : FnOk X.prog X.w X.K X.mg X.base (L2N.CX X.prog X.w) k fa fd ps sp) (hr : Room k X.A) (hb : L2.Binds X.K fd ps []) (tk : L2N.Takes X Wx)
    (hf : X.fn x = true ∨ X.env.scope.names.lookup x = some .local := by first | exact .inl rfl | exact .inr rfl | assumption) : PS X (.AugAssign (.Name x px) .Add (.Name y py) pos) (tAugX i j C sp Wx) := by
  refine ⟨fun pins s σ H D I h => ?_⟩
  obtain ⟨a, dx, fs, yv, e1, e2, ha, q⟩ := h
  obtain ⟨m, hn, hl⟩ := I.loc
  have vis : Vis X.env.scope x := by rcases hx with k | k; exact .inl k; exact .inr (.inl k)
  obtain ⟨u, r, l⟩ := hl i x _ hi e1 vis
  obtain rfl : u = Value.ref a := r
  refine wpAny_AugAssign_Name ?_
  have go : wpAny (model X.prog X.w) X.A (eval (.Name y py) X.env) (fun w s₂ => wpAny (model X.prog X.w) X.A (inplaceOp .Add (.ref a) w) (fun r s₃ => wpAny (model X.prog X.w) X.A (storeName X.env x r) (fun _ => SP X pins D .next) X.xe s₃) X.xe s₂) X.xe s := by
    refine thn (he.run pins s σ H (fun v H1 => v = yv ∧ H1 = H) I ⟨yv, e2, rfl, rfl⟩) fun w s1 ⟨y1, H1, I1, r1, e3, e4⟩ => ?_
    subst e3 e4
    refine thn (op_iadX sf hm F1 hr hb tk I1 r1 ha q) fun z s2 ⟨zv, H2, I2, r2, q2⟩ => ?_
    exact store_ok I2 hN hi hx r2 (fun s3 I3 => ⟨_, H2, I3, q2⟩) hf
  rcases l with ⟨hk, hm⟩ | ⟨hk, c, hc, hcell⟩
  · exact wpAny_loadName_local I.ok.kind hk hn hm go
  · rcases hk with hk | hk
    · exact wpAny_loadName_cell I.ok.kind hk hc hcell go
    · rcases hx with k | k
      · have : X.env.scope.names.lookup x = some .free := hk
        rw [k] at this; cases this
      · have : X.env.scope.names.lookup x = some .free := hk
        rw [k] at this; cases this
end
def spM (K : PySem.W.Frag) (cm : CM) (F : List D → Res (D × D)) : Sp := fun vs H Q E => ∃ x o S v1 v2 d d1 d2, vs = [.ref x, v1, v2] ∧ Ex S H ∧ H x = some o ∧ S x = none ∧ RpO K cm S o d ∧ RpB K cm S H v1 d1 ∧ Rp K cm S v2 d2 ∧
  ∃ b d', F [d, d1, d2] = .ok (b, d') ∧ ∀ S' H' o' v, Fwd S (rem H x) S' (rem H' x) → H' x = some o' → S' x = none → RpO K cm S' o' d' → Rp K cm S' v b → Q v H'
def isC (C : Str) : D → Bool
  | .obj nm _ _ => decide (nm = C)
  | _ => false
def runM (n : Nat) (Cn : Str) (isM : Str → Option Bool) (Fi : List D → Res D) (Fs : Rho → SR) (f2 : Rho → Res D) : List D → Res (D × D)
  | [d, d1, d2] => if isC Cn d = false then .bad else (match Fi [d, d1] with
    | .ok d' => (f2 ((startR n []).set 2 (some d2))).bind fun b => .ok (b, d')
    | .err nm ns vs => if isM nm = some true then (match Fs (((startR n []).set 2 (some d2)).set 3 (some (.obj nm ns vs))) with
      | .rt b => .ok (b, d)
      | _ => .bad) else .bad
    | .bad => .bad)
  | _ => .bad
theorem Fwd.but {S H S' H' : Hp} (f : Fwd S H S' H') {x : Addr} {o o' : HO} (hx : H x = some o) (hp : ∀ ps, o ≠ .tbl ps) (sx : S' x = none) (hx' : H' x = some o') (pl : Pl o') : Fwd S (rem H x) S' (rem H' x) := by
  have hH : upd (rem H x) x o = H := rem_put hx
  have e1 : Ex (rem H x) H := by have := Ex.new (H := rem H x) (p := x) (o := o) rem_same; rw [hH] at this; exact this
  have tk : Tk (rem H x) H := by have := Tk.new (H := rem H x) (p := x) (o := o) rem_same; rw [hH] at this; exact this
  have tk2 : Tk H' (rem H' x) := Tk.but (A := [x]) (fun a ha => ⟨o', by rw [List.mem_singleton.mp ha]; exact hx', pl⟩) fun b u hb eb => by
    rw [rem_ne fun z => hb (List.mem_singleton.mpr z)]; exact eb
  refine ⟨f.s, (e1.trans f.h).rem rem_same, f.sub.rem sx, fun a u h n => ?_, (tk.trans f.tb).trans tk2⟩
  have ha : a ≠ x := fun z => by subst z; rw [sx] at h; cases h
  have := f.new a u h n
  unfold Old at this ⊢
  rw [rem_ne ha]
  exact this
theorem own_stays {K : PySem.W.Frag} {cm : CM} {S H S' H' : Hp} {x : Addr} {o : HO} {d : D} (f : Fwd S H S' H') (h2 : H x = some o) (h3 : S x = none) (h5 : RpO K cm S o d) : H' x = some o ∧ S' x = none := by
  refine ⟨(f.h x _ h2).of h5.nt, ?_⟩
  cases e : S' x with
  | none => rfl
  | some u => obtain ⟨ys, z⟩ := (f.new x u e h3).not h2; subst z; cases h5
section
variable {P : Program} {w : World} {K : PySem.W.Frag} {mg : Str → Option Value} {base : Heap} {cm : CM}
theorem env_val {c : Cf} {S H : Hp} {σ : St} {n i : Nat} {v : V} {d : D} (ex : Ex S H) (hi : σ[i]? = some (some v)) (hd : Rp c.K c.cm S v d) (hl : σ.length = n) (ht : ∀ P q, c.tb P q → LamX.TabS H P q := by intro _ _ z; exact False.elim z) : EnvOk c S H (G0 [] n) S H σ ((startR n []).set i (some d)) := by
  have hkd : ∀ j, kd (G0 [] n) j = .v := fun j => by
    unfold kd G0
    rw [List.getD_eq_getElem?_getD]
    show ((List.replicate (n - 0) Ow.v)[j]?).getD .v = .v
    rw [List.getElem?_replicate]
    split <;> rfl
  have only : ∀ j e, ((startR n []).set i (some d))[j]? = some (some e) → j = i ∧ e = d := fun j e h => by
    rcases set_some h with ⟨e1, e2, _⟩ | ⟨_, h⟩
    · exact ⟨e1.symm, by injection e2 with e2; exact e2.symm⟩
    · have := startR_some h
      simp at this
  refine ⟨Fwd.refl ex, by rw [List.length_set]; unfold startR; rw [hl]; simp, fun j e h => ?_, fun a b e1 e2 p hi hj k1 _ _ _ => ?_, ⟨[], .nil (fun j e h => ?_) ht⟩⟩
  · obtain ⟨rfl, rfl⟩ := only j e h
    exact ⟨v, hi, by rw [hkd]; exact hd⟩
  · rw [(only a _ hi).1, (only b _ hj).1]
  · rw [hkd]
    exact ⟨fun _ h => (by cases h), fun h => (by cases h)⟩
theorem dokM {x qual nm xn x0 x1 : Str} {st : Stmt} {f Ci : Addr} {fd : FuncData} {N ps : List Str} {k : Nat} {cv : Value} {e2 : Expr} {b0 : Stmt} {suite : List Stmt} {q0 q1 qa np ph pt pr : Pos} {isM : Str → Option Bool} {Fi : List D → Res D} {Fs : Rho → SR} {f2 : Rho → Res D} {Gs : List Ow} (F : Fun K x qual st f fd) (S : FnScope N ps (defScope st)) (hps : ps.length = 3) (hn : 4 ≤ N.length)
    (hbody : defBody st = [.Try [.AugAssign (.Name x0 q0) .Add (.Name x1 q1) qa] [.ExceptHandler (some (.Name xn np)) (some nm) (b0 :: suite) ph] [] [] pt, .Return (some e2) pr])
    (h1 : ∀ (cdv : Value) (A : Around) (outer : List Env) (s : Shared) (H : Hp) (E : XK), Room k (A.deeper (PyProof.Rows.envOfC qual (defScope st) s.heap.objs.size f cdv)) → ∀ (X : Cx), X = cxOf (L2N.CX P w) P w K mg base N qual (defScope st) f cdv A outer s H E →
      X.stack = X.env :: X.outer ∧ X.env.frame = some X.env.locals ∧ X.N.Nodup ∧ X.N[3]? = some nm ∧ X.env.kindOf nm = some .local ∧ Names X xn cv ∧ L2N.Takes X (cfE K cm false E).W ∧ X.K = K ∧
      (∀ (W : WX) (pn : List (Addr × Obj)) (xe : Value → Shared → Prop), L2N.Takes (X.tr pn xe) W → PS (X.tr pn xe) (.AugAssign (.Name x0 q0) .Add (.Name x1 q1) qa) (tAugX 0 1 Ci (spIo K cm Fi) W)) ∧
      (∀ (a C dd : Addr) (oe : Obj) (pn : List (Addr × Obj)), (∃ n, cm n = some C ∧ isM n = some true) → L2N.Zn (.ref C) (some dd) oe → (∃ vs, oe.data = .fields vs) → PSs (X.suite a ((a, oe) :: pn)) (b0 :: suite) (sD (cfE K cm false E).calm ((G0 [] N.length).set 3 (.x a C dd)) ((G0 [] N.length).set 3 (.x a C dd)) (Gs.set 3 (.x a C dd)) Fs)) ∧
      PE X e2 (tV (cfE K cm false E) (G0 [] N.length) f2))
    (hM : ∀ n C b, cm n = some C → isM n = some b → PySem.W.exmOne K (.ref C) cv = some b) {Cn : Str} (hci : cm Cn = some Ci) :
    FnOk P w K mg base (L2N.CX P w) (k + 1) f fd ps (spM K cm (runM N.length Cn isM Fi Fs f2)) := by
  refine F.okN S (fun vs H Q E h => ?_) (fun cdv A outer s H vs Q E hr h => ?_)
  · obtain ⟨x, o, S, v1, v2, d, d1, d2, rfl, _⟩ := h
    rw [hps]
    rfl
  · obtain ⟨x, o, S, v1, v2, d, d1, d2, rfl, ex, hx, sx, ho, r1, r2, b, d', hF, q⟩ := h
    obtain ⟨a1, a2, a3, a4, a5, a6, a7, a8, a9, a10, a11⟩ := h1 cdv A outer s H E hr _ rfl
    have hsuT : ∀ (a : Addr) (oe : Obj) (cls : Value) (d : Option Addr) (pn : List (Addr × Obj)), L2N.Zn cls d oe → (∃ vs, oe.data = .fields vs) → PSs ((cxOf (L2N.CX P w) P w K mg base N qual (defScope st) f cdv A outer s H E).suite a ((a, oe) :: pn)) (b0 :: suite) (fun D σ H => ∃ C dd, cls = .ref C ∧ d = some dd ∧ (∃ n, cm n = some C ∧ isM n = some true) ∧ sD (cfE K cm false E).calm ((G0 [] N.length).set 3 (.x a C dd)) ((G0 [] N.length).set 3 (.x a C dd)) (Gs.set 3 (.x a C dd)) Fs D σ H) := fun a oe cls dd' pn hz hff => ⟨fun pins s σ H D I ⟨C, dd, hC, hd, hin, q⟩ => by
      subst hC hd
      exact (a10 a C dd oe pn hin hz hff).run pins s σ H D I q⟩
    refine ⟨_, by rw [hbody]; exact pss_cons (L2N.ps_try_as (tb := fun W => tAugX 0 1 Ci (spIo K cm Fi) W) (ts := fun a cls dd' => fun D σ H => ∃ C dd, cls = .ref C ∧ dd' = some dd ∧ (∃ n, cm n = some C ∧ isM n = some true) ∧ sD (cfE K cm false E).calm ((G0 [] N.length).set 3 (.x a C dd)) ((G0 [] N.length).set 3 (.x a C dd)) (Gs.set 3 (.x a C dd)) Fs D σ H) a1 a2 a3 a4 a5 a6 a7 (fun W pn xe tk _ => pss_one (a9 W pn xe tk)) hsuT) (pss_one (ps_ret a11)), ?_⟩
    · have hst : (L2.start N [V.ref x, v1, v2]).length = N.length := by unfold L2.start; simp; omega
      have hs0 : (L2.start N [V.ref x, v1, v2])[0]? = some (some (.ref x)) := by unfold L2.start; rfl
      have hs1 : (L2.start N [V.ref x, v1, v2])[1]? = some (some v1) := by unfold L2.start; rfl
      have hs2 : (L2.start N [V.ref x, v1, v2])[2]? = some (some v2) := by unfold L2.start; rfl
      unfold runM at hF
      dsimp only at hF
      have hic : isC Cn d = true := by
        cases e : isC Cn d with
        | true => rfl
        | false => rw [if_pos e] at hF; cases hF
      rw [if_neg (by rw [hic]; decide)] at hF
      have hnb : Fi [d, d1] ≠ .bad := fun z => by rw [z] at hF; cases hF
      obtain ⟨dx, fs, rfl⟩ : ∃ dx fs, o = .ins Ci dx fs := by
        cases ho with
        | obj z1 =>
          have : _ = Cn := of_decide_eq_true hic
          subst this
          rw [hci] at z1
          cases z1
          exact ⟨_, _, rfl⟩
        | lst => cases hic
        | dk => cases hic
        | dt => cases hic
        | dn => cases hic
      refine ⟨x, dx, fs, v1, hs0, hs1, hx, x, _, S, v1, d, d1, rfl, ex, hx, sx, ho, r1, ?_⟩
      cases hFi : Fi [d, d1] with
      | bad => exact absurd hFi hnb
      | ok d'' =>
        rw [hFi] at hF
        dsimp only at hF
        intro S' H' o' fw hx' sx' ho'
        cases hf2 : f2 ((startR N.length []).set 2 (some d2)) with
        | err _ _ _ => rw [hf2] at hF; cases hF
        | bad => rw [hf2] at hF; cases hF
        | ok b' =>
          rw [hf2] at hF
          have hF : (Res.ok (b', d'') : Res (D × D)) = .ok (b, d') := hF
          cases hF
          have exS : Ex S' H' := by
            have := fw.sub
            exact fun a u h => by
              have h2 := this a u h
              have ha : a ≠ x := fun z => by subst z; rw [sx'] at h; cases h
              exact h2.at (rem_ne ha).symm
          refine ⟨S', H', S', _, env_val (c := cfE K cm false E) (i := 2) (v := v2) exS (by rw [List.getElem?_set_ne (by decide)]; exact hs2) (r2.mono fw.s) (by rw [List.length_set]; exact hst), ?_⟩
          rw [hf2]
          intro S2 H2 fw2 v hv
          obtain ⟨z1, z2⟩ := own_stays fw2 hx' sx' ho'
          exact q S2 H2 o' v (fw.trans (fw2.but hx' ho'.nt z2 z1 ho'.pl)) z1 z2 (ho'.mono fw2.s) hv
      | err nm ns vs =>
        rw [hFi] at hF
        dsimp only at hF
        by_cases hI : isM nm = some true
        · rw [if_pos hI] at hF
          intro C dd S' H' fs' g1 fw g2 g3 g4
          refine ⟨true, by rw [a8]; exact hM nm C true g1 hI, fun _ a ha => ?_, fun z => (by cases z)⟩
          have eV := env_val (c := cfE K cm false E) (S := S') (H := H') (n := N.length) (i := 2) (v := v2) fw.sub hs2 (r2.mono fw.s) hst
          refine ⟨C, dd, rfl, rfl, ⟨nm, g1, hI⟩, S', H', S', _, eV.setX (c' := (cfE K cm false E).calm) (a := a) rfl rfl 3 (by unfold G0; simp; omega) g1 g2 g3 g4, ?_⟩
          cases hFs : Fs (((startR N.length []).set 2 (some d2)).set 3 (some (.obj nm ns vs))) with
          | rt b' =>
            rw [hFs] at hF
            have hF : (Res.ok (b', d) : Res (D × D)) = .ok (b, d') := hF
            cases hF
            intro v S2 H2 fw2 hv
            obtain ⟨z1, z2⟩ := own_stays fw hx sx ho
            obtain ⟨z3, z4⟩ := own_stays fw2 z1 z2 (ho.mono fw.s)
            exact q S2 H2 _ v ((fw.trans fw2).but hx ho.nt z4 z3 (ho.mono (fw.trans fw2).s).pl) z3 z4 (ho.mono (fw.trans fw2).s) hv
          | _ => rw [hFs] at hF; cases hF
        · rw [if_neg hI] at hF
          cases hF
end
section
variable {X : Cx} {c : Cf} {L G G' : List Ow} {e a b : Expr} {rest : List Expr} {pos p : Pos} {t1 : Rho → Res Bool} {t2 t3 : Rho → Res (Bool × Rho)} {σ : St} {H : Hp}
def rdM (c : Cf) (G : List Ow) (t : Rho → Res (Bool × Rho)) : TT := fun σ H Q => ∃ S0 H0 S r, EnvOk c S0 H0 G S H σ r ∧ ∃ k r', t r = .ok (k, r') ∧ ∀ S' H', EnvOk c S0 H0 G S' H' σ r' → Q k H'
def pureM (t : Rho → Res Bool) : Rho → Res (Bool × Rho) := fun r => (t r).bind fun k => .ok (k, r)
def notM (t : Rho → Res (Bool × Rho)) : Rho → Res (Bool × Rho) := fun r => (t r).bind fun x => .ok (!x.1, x.2)
def orM (t u : Rho → Res (Bool × Rho)) : Rho → Res (Bool × Rho) := fun r => (t r).bind fun x => if x.1 = true then .ok x else u x.2
def ifM (t : Rho → Res (Bool × Rho)) (F K : Rho → SR) : Rho → SR := fun r => match t r with
  | .ok x => if x.1 = true then F x.2 else K x.2
  | _ => .bad
theorem mt_pure (h : PT X e (tT c G t1)) : PT X e (rdM c G (pureM t1)) := pt_imp h fun σ H Q ⟨S0, H0, S, r, ok, k, r', hr, q⟩ => by
  refine ⟨S0, H0, S, r, ok, ?_⟩
  unfold pureM at hr
  cases ht : t1 r with
  | ok b =>
    rw [ht] at hr
    have hr : (Res.ok (b, r) : Res (Bool × Rho)) = .ok (k, r') := hr
    cases hr
    intro S' H' fw b' hb
    rw [show b' = k from hb]
    exact q S' H' (ok.go fw)
  | err _ _ _ => rw [ht] at hr; cases hr
  | bad => rw [ht] at hr; cases hr
theorem mt_not (h : PT X e (rdM c G t2)) : PT X (.UnaryOp .Not e pos) (rdM c G (notM t2)) := pt_imp (pt_not h) fun σ H Q ⟨S0, H0, S, r, ok, k, r', hr, q⟩ => by
  unfold notM at hr
  cases ht : t2 r with
  | ok x =>
    rw [ht] at hr
    have hr : (Res.ok (!x.1, x.2) : Res (Bool × Rho)) = .ok (k, r') := hr
    cases hr
    exact ⟨S0, H0, S, r, ok, x.1, x.2, ht, q⟩
  | err _ _ _ => rw [ht] at hr; cases hr
  | bad => rw [ht] at hr; cases hr
theorem mw_or1 (h : PT X a (rdM c G t2)) : PW X (.BoolOp .Or [a] pos) (rdM c G t2) := pw_or1 h
theorem mw_or (ha : PT X a (rdM c G t2)) (hb : PW X (.BoolOp .Or (b :: rest) pos) (rdM c G t3)) : PW X (.BoolOp .Or (a :: b :: rest) pos) (rdM c G (orM t2 t3)) := pw_imp (pw_or ha hb) fun σ H Q ⟨S0, H0, S, r, ok, k, r', hr, q⟩ => by
  unfold orM at hr
  cases ht : t2 r with
  | ok x =>
    rw [ht] at hr
    have hr : (if x.1 = true then (Res.ok x : Res (Bool × Rho)) else t3 x.2) = .ok (k, r') := hr
    refine ⟨S0, H0, S, r, ok, x.1, x.2, ht, fun S' H' e' => ?_⟩
    obtain ⟨x1, x2⟩ := x
    cases x1 with
    | true =>
      rw [if_pos rfl] at hr
      cases hr
      exact q S' H' e'
    | false =>
      rw [if_neg Bool.false_ne_true] at hr
      exact ⟨S0, H0, S', x2, e', k, r', hr, q⟩
  | err _ _ _ => rw [ht] at hr; cases hr
  | bad => rw [ht] at hr; cases hr
theorem ds_ifM {sa sb : List Stmt} {F K : Rho → SR} (hc : PT X e (rdM c G t2)) (ha : PSs X sa (sD c L G G' F)) (hb : PSs X sb (sD c L G G' K)) : PS X (.If e sa sb pos) (sD c L G G' (ifM t2 F K)) :=
  ps_imp (ps_if hc ha hb) fun E σ H ⟨S0, H0, S, r, ok, p⟩ => by
    unfold ifM at p
    cases ht : t2 r with
    | ok x =>
      rw [ht] at p
      refine ⟨S0, H0, S, r, ok, x.1, x.2, ht, fun S' H' e' => ?_⟩
      cases hx : x.1 with
      | true =>
        rw [if_pos rfl]
        rw [show (match (Res.ok x : Res (Bool × Rho)) with
          | .ok x => if x.1 = true then F x.2 else K x.2
          | _ => .bad) = F x.2 from if_pos hx] at p
        exact ⟨S0, H0, S', x.2, e', p⟩
      | false =>
        rw [if_neg Bool.false_ne_true]
        rw [show (match (Res.ok x : Res (Bool × Rho)) with
          | .ok x => if x.1 = true then F x.2 else K x.2
          | _ => .bad) = K x.2 from if_neg (by rw [hx]; exact Bool.false_ne_true)] at p
        exact ⟨S0, H0, S', x.2, e', p⟩
    | err _ _ _ => rw [ht] at p; exact p.elim
    | bad => rw [ht] at p; exact p.elim
theorem set_there {α : Type} {xs : List α} {i : Nat} {x : α} (h : xs[i]? = some x) : xs.set i x = xs := by
  apply List.ext_getElem?
  intro j
  by_cases e : i = j
  · subst e
    rw [List.getElem?_set_self (List.getElem?_eq_some_iff.mp h).1, h]
  · rw [List.getElem?_set_ne e]
/-- the own object in slot i has changed -/
theorem EnvOk.back {S0 H0 S H S' H' : Hp} {r : Rho} {i : Nat} {d d' : D} {x : Addr} {o' : HO} (ok : EnvOk c S0 H0 G S H σ r) (kk : kd G i = .o) (hr : r[i]? = some (some d)) (hs : σ[i]? = some (some (.ref x))) (sx : S x = none) (hx0 : H0 x = none) (fw : Fwd S (rem H x) S' (rem H' x)) (hx' : H' x = some o') (sx' : S' x = none) (ho' : RpO c.K c.cm S' o' d') : EnvOk c S0 H0 G S' H' σ (r.set i (some d')) := by
  have e1 := (ok.take kk hr hs sx hx0).go fw
  have hH : upd (rem H' x) x o' = H' := rem_put hx'
  have exS : Ex S' H' := fun a u h => by
    have h2 := fw.sub a u h
    have ha : a ≠ x := fun z => by subst z; rw [sx'] at h; cases h
    exact h2.at (rem_ne ha).symm
  have f2 : Fwd S' (rem H' x) S' H' := by
    have e1 : Ex (rem H' x) H' := by have := Ex.new (H := rem H' x) (p := x) (o := o') rem_same; rw [hH] at this; exact this
    have tk : Tk (rem H' x) H' := by have := Tk.new (H := rem H' x) (p := x) (o := o') rem_same; rw [hH] at this; exact this
    exact ⟨Ex.refl, e1, exS, fun a o h n => (by rw [n] at h; cases h), tk⟩
  have hi : i < G.length := Nat.lt_of_not_le fun z => by
    have : kd G i = .v := by
      show G.getD i .v = .v
      rw [List.getD_eq_getElem?_getD, List.getElem?_eq_none z]; rfl
    rw [this] at kk; cases kk
  have e2 := e1.setO f2 i (by rw [List.length_set]; exact hi) rem_same sx' hx' ho'
  rw [set_kd kk, List.set_set, set_there hs] at e2
  exact e2
def callMJ (i j : Nat) (F : List D → Res (D × D)) (f2 : Rho → Res D) : Rho → Res (Bool × Rho) := fun r => match r[i]?, r[j]? with
  | some (some d), some (some d1) => (f2 r).bind fun d2 => (F [d, d1, d2]).bind fun x => (asB x.1).bind fun k => .ok (k, r.set i (some x.2))
  | _, _ => .bad
def callMO (i : Nat) (F : List D → Res (D × D)) (f1 f2 : Rho → Res D) : Rho → Res (Bool × Rho) := fun r => match r[i]? with
  | some (some d) => (f1 r).bind fun d1 => (f2 r).bind fun d2 => (F [d, d1, d2]).bind fun x => (asB x.1).bind fun k => .ok (k, r.set i (some x.2))
  | _ => .bad
theorem bind_ok {α β : Type} {x : Res α} {f : α → Res β} {b : β} (h : x.bind f = .ok b) : ∃ a, x = .ok a ∧ f a = .ok b := by
  cases x with
  | ok a => exact ⟨a, rfl, h⟩
  | err _ _ _ => cases h
  | bad => cases h
theorem mt_callJ {fn x y : Str} {p0 px py : Pos} {e2 : Expr} {k : Nat} {fa : Addr} {fd : FuncData} {ps : List Str} {F : List D → Res (D × D)} {f2 : Rho → Res D} (i j : Nat) (ki : kd G i = .o) (kj : kd G j = .o) (F1 : FnOk X.prog X.w X.K X.mg X.base (L2N.CX X.prog X.w) k fa fd ps (spM c.K c.cm F)) (tk : L2N.Takes X c.W) (hr : Room k X.A) (hgl : Gl X fn) (hm : X.mg fn = some (.ref fa)) (hk : PySem.W.keepIn X.K (.ref fa) = true) (hb : L2.Binds X.K fd ps [])
    (h0 : PE X (.Name x px) (tVar i)) (h1 : PE X (.Name y py) (tVar j)) (h2 : PE X e2 (tV c G f2)) (hdb : (fn == ("__debug__" : Str)) = false := by decide)
    (he0 : starEach [.Name x px, .Name y py, e2] X.env = (false, eval (.Name x px) X.env) :: starEach [.Name y py, e2] X.env := by rfl) (he1 : starEach [.Name y py, e2] X.env = (false, eval (.Name y py) X.env) :: starEach [e2] X.env := by rfl) (he2 : starEach [e2] X.env = (false, eval e2 X.env) :: starEach [] X.env := by rfl) (hpl : (backTo pos (starEach [.Name y py, e2] X.env)).any (·.1) = false := by rfl)
    (hv : ∀ whole, isTrue (.Call (.Name fn p0) [.Name x px, .Name y py, e2] [] pos) X.env whole = (do let v ← whole; standAt (Expr.pos (.Call (.Name fn p0) [.Name x px, .Name y py, e2] [] pos)); holding [v] (truthy v)) := by intro _; rfl) :
    PT X (.Call (.Name fn p0) [.Name x px, .Name y py, e2] [] pos) (rdM c G (callMJ i j F f2)) :=
  pt_imp (pt_val (pe_callSD (E := fun σ cls d H => c.W cls d σ H) F1 hr hgl hm hk hb .nil (fun σ => L2N.passAt tk σ) (pa_cons h0 (pa_cons h1 (pa_cons h2 pa_nil he2) he1) he0) hdb he0 hpl) hv) fun σ H Q ⟨S0, H0, S, r, ok, kb, r', hr, q⟩ => by
    unfold callMJ at hr
    split at hr
    · rename_i d d1 hi hj
      obtain ⟨d2, hf2, hr⟩ := bind_ok hr
      obtain ⟨⟨b, d'⟩, hF, hr⟩ := bind_ok hr
      obtain ⟨kb', hkb, hr⟩ := bind_ok hr
      cases hr
      cases b with
      | bl kb2 =>
        cases hkb
        obtain ⟨xa, o, s1, s2, s3, s4, s5⟩ := ok.own ki hi
        obtain ⟨ya, oy, t1, t2, t3, t4, t5⟩ := ok.own kj hj
        refine ⟨.ref xa, s1, .ref ya, t1, S0, H0, S, r, ok, ?_⟩
        rw [hf2]
        intro S1 H1 fw v hv
        have o1 := ok.go fw
        obtain ⟨xa', o', u1, u2, u3, u4, u5⟩ := o1.own ki hi
        rw [s1] at u1; cases u1
        obtain ⟨ya', oy', w1, w2, w3, w4, w5⟩ := o1.own kj hj
        rw [t1] at w1; cases w1
        refine ⟨xa, o', S1, .ref ya, v, d, d1, d2, rfl, o1.ex, u2, u3, u5, .inr ⟨ya, oy', rfl, w2, w5⟩, hv, .bl kb, d', hF, fun S' H' o2 z f1 g1 g2 g3 g4 => ?_⟩
        cases g4
        exact ⟨kb, rfl, q S' H' (o1.back ki hi s1 u3 u4 f1 g1 g2 g3)⟩
      | _ => cases hkb
    · cases hr
theorem mt_callO {fn x : Str} {p0 px : Pos} {e1 e2 : Expr} {k : Nat} {fa : Addr} {fd : FuncData} {ps : List Str} {F : List D → Res (D × D)} {f1 f2 : Rho → Res D} (i : Nat) (ki : kd G i = .o) (F1 : FnOk X.prog X.w X.K X.mg X.base (L2N.CX X.prog X.w) k fa fd ps (spM c.K c.cm F)) (tk : L2N.Takes X c.W) (hr : Room k X.A) (hgl : Gl X fn) (hm : X.mg fn = some (.ref fa)) (hk : PySem.W.keepIn X.K (.ref fa) = true) (hb : L2.Binds X.K fd ps [])
    (h0 : PE X (.Name x px) (tVar i)) (h1 : PE X e1 (tO c G f1)) (h2 : PE X e2 (tV c G f2)) (hdb : (fn == ("__debug__" : Str)) = false := by decide)
    (he0 : starEach [.Name x px, e1, e2] X.env = (false, eval (.Name x px) X.env) :: starEach [e1, e2] X.env := by rfl) (he1 : starEach [e1, e2] X.env = (false, eval e1 X.env) :: starEach [e2] X.env := by rfl) (he2 : starEach [e2] X.env = (false, eval e2 X.env) :: starEach [] X.env := by rfl) (hpl : (backTo pos (starEach [e1, e2] X.env)).any (·.1) = false := by rfl)
    (hv : ∀ whole, isTrue (.Call (.Name fn p0) [.Name x px, e1, e2] [] pos) X.env whole = (do let v ← whole; standAt (Expr.pos (.Call (.Name fn p0) [.Name x px, e1, e2] [] pos)); holding [v] (truthy v)) := by intro _; rfl) :
    PT X (.Call (.Name fn p0) [.Name x px, e1, e2] [] pos) (rdM c G (callMO i F f1 f2)) :=
  pt_imp (pt_val (pe_callSD (E := fun σ cls d H => c.W cls d σ H) F1 hr hgl hm hk hb .nil (fun σ => L2N.passAt tk σ) (pa_cons h0 (pa_cons h1 (pa_cons h2 pa_nil he2) he1) he0) hdb he0 hpl) hv) fun σ H Q ⟨S0, H0, S, r, ok, kb, r', hr, q⟩ => by
    unfold callMO at hr
    split at hr
    · rename_i d hi
      obtain ⟨d1, hf1, hr⟩ := bind_ok hr
      obtain ⟨d2, hf2, hr⟩ := bind_ok hr
      obtain ⟨⟨b, d'⟩, hF, hr⟩ := bind_ok hr
      obtain ⟨kb', hkb, hr⟩ := bind_ok hr
      cases hr
      cases b with
      | bl kb2 =>
        cases hkb
        obtain ⟨xa, o, s1, s2, s3, s4, s5⟩ := ok.own ki hi
        refine ⟨.ref xa, s1, S0, H0, S, r, ok, ?_⟩
        rw [hf1]
        intro S1 H1 fw v1 hv1
        have o1 := ok.go fw
        obtain ⟨pa, po, rfl, n1, n2, n3, n4⟩ := hv1
        refine ⟨S0, H0, S1, r, o1, ?_⟩
        rw [hf2]
        intro S2 H2 fw2 v hv
        have o2 := o1.go fw2
        obtain ⟨xa', o', u1, u2, u3, u4, u5⟩ := o2.own ki hi
        rw [s1] at u1; cases u1
        refine ⟨xa, o', S2, .ref pa, v, d, d1, d2, rfl, o2.ex, u2, u3, u5, RpB.mono (.inr ⟨pa, po, rfl, n3, n4⟩) fw2.s fw2.h, hv, .bl kb, d', hF, fun S' H' o3 z f1 g1 g2 g3 g4 => ?_⟩
        cases g4
        exact ⟨kb, rfl, q S' H' (o2.back ki hi s1 u3 u4 f1 g1 g2 g3)⟩
      | _ => cases hkb
    · cases hr
end
section
variable {X : Cx} {k : Nat} {fa C : Addr} {fd : FuncData} {ps : List Str} {sp : Sp} {Wx : WX} {pos : Pos} {l r : Expr} {ta tb : TE} {c : Cf} {G : List Ow} {n : Str} {F : List D → Res D} {f1 f2 : Rho → Res D}
def tBinX (C : Addr) (sp : Sp) (Wx : WX) (ta tb : TE) : TE := fun σ H Q => ta σ H fun x H1 => tb σ H1 fun y H2 => ∃ a dx fs b dy gs, x = .ref a ∧ y = .ref b ∧ H2 a = some (.ins C dx fs) ∧ H2 b = some (.ins C dy gs) ∧ sp [x, y] H2 Q (fun cls d H' => Wx cls d σ H')
theorem pe_binX {op : Operator} (hc : PySem.W.selfFirst X.K C = true) (hm : L2.Meth X.K C (PySem.dunder op.info.2) fa) (F1 : FnOk X.prog X.w X.K X.mg X.base (L2N.CX X.prog X.w) k fa fd ps sp) (hr : Room k X.A) (hb : L2.Binds X.K fd ps []) (tk : L2N.Takes X Wx) (ha : PE X l ta) (hb2 : PE X r tb) : PE X (.BinOp l op r pos) (tBinX C sp Wx ta tb) := by
  refine ⟨fun pins s σ H Q I h => wpAny_BinOp (binT ha hb2 I h fun v u s2 x y H2 I2 rx ry q => ?_)⟩
  obtain ⟨a, dx, fs, b, dy, gs, rfl, rfl, h1, h2, q⟩ := q
  cases rx
  cases ry
  obtain ⟨ox, od, J, _⟩ := ins_at I2 h1
  obtain ⟨ox', od', J', _⟩ := ins_at I2 h2
  obtain ⟨m, hF⟩ := I2.fr
  refine PySem.W.binop_K (op := op) hF I2.ok.mod.kin J J'.type hc hm.at_ hm.fn (wpAny_mono (run_fnSD (E := fun σ cls d H' => Wx cls d σ H') (dvs := []) (us := [.ref a, .ref b]) (vs := [.ref a, .ref b]) F1 hr hb .nil (L2N.passAt tk σ) I2 (.cons rfl (.cons rfl .nil)) q) (fun w s' z => ?_) fun _ _ x => x)
  obtain ⟨z', H', I', rz, qz⟩ := z
  exact SlX.cmpback rz ⟨z', H', I', rz, qz⟩
def binX (n : Str) (F : List D → Res D) (d e : D) : Res D := if isCls n d = true ∧ isCls n e = true then F [d, e] else .bad
theorem de_binX {op : Operator} (hcn : c.cm n = some C) (hc : PySem.W.selfFirst X.K C = true) (hm : L2.Meth X.K C (PySem.dunder op.info.2) fa) (F1 : FnOk X.prog X.w X.K X.mg X.base (L2N.CX X.prog X.w) k fa fd ps (spD c.K c.cm [true, true] false F)) (tk : L2N.Takes X c.W) (hr : Room k X.A) (hb : L2.Binds X.K fd ps []) (ho : PE X l (tR c G f1)) (hi : PE X r (tR c G f2)) : PE X (.BinOp l op r pos) (tV c G (dOp (binX n F) f1 f2)) :=
  pe_imp (pe_binX (Wx := c.W) hc hm F1 hr hb tk ho hi) fun σ H Q ⟨S0, H0, S, r, ok, p⟩ => rd_seq ok p fun d v S1 H1 w1 o1 m1 p1 => rd_seq o1 p1 fun e u S2 H2 w2 o2 m2 p2 => by
    have m1 := RpB.mono m1 w2.s w2.h
    unfold binX at p2
    by_cases hc : isCls n d = true ∧ isCls n e = true
    · rw [if_pos hc] at p2
      obtain ⟨a, dx, gs, rfl, h2⟩ := of_isCls o2.ex hcn hc.1 m1
      obtain ⟨b, dy, gs', rfl, h3⟩ := of_isCls o2.ex hcn hc.2 m2
      exact ⟨a, dx, gs, b, dy, gs', rfl, rfl, h2, h3, call_rd (ds := [d, e]) (fun _ _ _ h => h) o2.ex ⟨m1, m2, trivial⟩ (p2.anti (w1.h.trans w2.h))⟩
    · rw [if_neg hc] at p2
      exact p2.elim
theorem rs_binX {ns ms : List Str} {vs us : List D} {P : D → Prop} {E : Str → List Str → List D → Prop} (h : Rs (F [.obj n ns vs, .obj n ms us]) P E) : Rs (binX n F (.obj n ns vs) (.obj n ms us)) P E := by
  unfold binX isCls
  simp only [decide_true, and_self, if_true]
  exact h
end
end Dx
end S_DxCZ
section S_P_data
set_option Elab.async false
set_option linter.all false
set_option maxRecDepth 100000
namespace Lk
open PySem L2 Dx
noncomputable section
def isM_LaidError : Str → Option Bool := fun n => if n = "NoSuchNumber" then some true else if n = "TooLarge" then some true else none
def isM_NoSuchNumber : Str → Option Bool := fun n => if n = "NoSuchNumber" then some true else if n = "TooLarge" then some false else none
def isM_TooLarge : Str → Option Bool := fun n => if n = "NoSuchNumber" then some false else if n = "TooLarge" then some true else none
def Fb_pieces_in : Rho → SR := (retF (dLc2 (dIt itemsX (dVar 0)) (tgN 1) dYes (dIt itemsT (dOp ixD (dVar 1) (dC (.int 4)))) (tgN 2) dYes (dVar 2) [1, 2] [2]))
def F_pieces_in : List D → Res D := runF 3 false Fb_pieces_in
def Fb_figures_in : Rho → SR := (retF (dLc2 (dIt itemsL (dCall F_pieces_in (dCons (dVar 0) dNil))) (tgN 1) dYes (dIt itemsT (dOp ixD (dVar 1) (dC (.int 3)))) (tgN 2) dYes (dVar 2) [1, 2] [2]))
def F_figures_in : List D → Res D := runF 3 false Fb_figures_in
def Lp_spans_in_1 : Rho → SR := (seqF (setF 4 (dCall (g1 lenD) (dCons (dVar 1) dNil))) (seqF (setF 5 (dOp addD (dVar 4) (dCall (g1 lenD) (dCons (dOp ixD (dVar 3) (dC (.int 4))) dNil)))) (extF 1 (dOp mulX (dLst (dCons (dTup (dCons (dVar 2) (dCons (dVar 4) (dCons (dVar 5) dNil)))) dNil)) (dCall (g1 lenD) (dCons (dOp ixD (dVar 3) (dC (.int 4))) dNil))))))
def Fb_spans_in : Rho → SR := (seqF (setF 1 (dLst dNil)) (seqF (forF (dIt enumX (dVar 0)) (tgT 2 (tgCons (tgN 2) (tgCons (tgN 3) tgNil))) Lp_spans_in_1) (retF (dVar 1))))
def F_spans_in : List D → Res D := runF 6 false Fb_spans_in
def Fb_Galley_init : Rho → SR := (seqF (parF 2 3 (dCall F_pieces_in (dCons (dVar 1) dNil)) (dCall F_figures_in (dCons (dVar 1) dNil))) (seqF (ifF (dT (dOp gtD (dCall (g1 lenD) (dCons (dVar 2) dNil)) (dC (.int 40)))) (raiF "TooLarge" ["many"] false (dCons (dCall (g1 lenD) (dCons (dVar 2) dNil)) dNil)) .nx) (seqF (ifF (dT (dOp gtD (dCall (g1 lenD) (dCons (dVar 3) dNil)) (dC (.int 4)))) (raiF "TooLarge" ["many"] false (dCons (dCall (g1 lenD) (dCons (dVar 3) dNil)) dNil)) .nx) (seqF (fstF 0 "Galley" "blocks" (dCall (g1 listD) (dCons (dVar 1) dNil))) (seqF (fstF 0 "Galley" "spans" (dCall F_spans_in (dCons (dVar 1) dNil))) (seqF (fstF 0 "Galley" "all_pieces" (dVar 2)) (fstF 0 "Galley" "all_figures" (dVar 3))))))))
def F_Galley_init : List D → Res D := runI 4 "Galley" Fb_Galley_init
def Fb_Galley_len : Rho → SR := (retF (dCall (g1 lenD) (dCons (dUn (fldD "Galley" "all_pieces") (dVar 0)) dNil)))
def F_Galley_len : List D → Res D := runF 1 false Fb_Galley_len
def Fb_Galley_eq : Rho → SR := (retF (dAndV (dUn (isiO "Galley") (dVar 1)) (dOp eqD (dUn (fldD "Galley" "blocks") (dVar 0)) (dUn (fldD "Galley" "blocks") (dVar 1)))))
def F_Galley_eq : List D → Res D := runF 2 false Fb_Galley_eq
def Fb_Galley_add : Rho → SR := (retF (dCall F_Galley_init (dCons (dOp addD (dUn (fldD "Galley" "blocks") (dVar 0)) (dUn (fldD "Galley" "blocks") (dVar 1))) dNil)))
def F_Galley_add : List D → Res D := runF 2 false Fb_Galley_add
def F_Galley_iadd : List D → Res D := (runIo 3 (dCall F_Galley_init (dCons (dOp addD (dUn (fldD "Galley" "blocks") (dVar 0)) (dUn (fldD "Galley" "blocks") (dVar 1))) dNil)) (asgF (tgT 2 (tgCons (tgFld 0 "Galley" "blocks") (tgCons (tgFld 0 "Galley" "spans") tgNil))) (dTup (dCons (dUn (fldD "Galley" "blocks") (dVar 2)) (dCons (dUn (fldD "Galley" "spans") (dVar 2)) dNil)))) (asgF (tgT 2 (tgCons (tgFld 0 "Galley" "all_pieces") (tgCons (tgFld 0 "Galley" "all_figures") tgNil))) (dTup (dCons (dUn (fldD "Galley" "all_pieces") (dVar 2)) (dCons (dUn (fldD "Galley" "all_figures") (dVar 2)) dNil)))))
def Fb_Galley_pieces : Rho → SR := (retF (dCall (g1 listD) (dCons (dUn (fldD "Galley" "all_pieces") (dVar 0)) dNil)))
def F_Galley_pieces : List D → Res D := runF 1 true Fb_Galley_pieces
def Fb_Galley_figures : Rho → SR := (retF (dCall (g1 listD) (dCons (dUn (fldD "Galley" "all_figures") (dVar 0)) dNil)))
def F_Galley_figures : List D → Res D := runF 1 true Fb_Galley_figures
def Fb_Galley_block_at : Rho → SR := (seqF (ifF (dNot (dT (dChain leD ltD (dC (.int 0)) (dVar 1) (dCall (g1 lenD) (dCons (dUn (fldD "Galley" "spans") (dVar 0)) dNil))))) (raiF "NoSuchNumber" ["number"] false (dCons (dVar 1) dNil)) .nx) (retF (dOp ixD (dUn (fldD "Galley" "spans") (dVar 0)) (dVar 1))))
def F_Galley_block_at : List D → Res D := runF 2 false Fb_Galley_block_at
def Fb_l_cell : Rho → SR := (seqF (ifF (dT (dOp ltD (dVar 1) (dCall (g1 lenD) (dCons (dVar 0) dNil)))) (retF (dCall (g1 intD) (dCons (dOp ixD (dVar 0) (dVar 1)) dNil))) .nx) (retF (dC (.int 0))))
def F_l_cell : List D → Res D := runF 2 false Fb_l_cell
def Lp_l_row_1 : Rho → SR := (seqF (appF 2 (dOp modD (dCall (g1 intD) (dCons (dVar 3) dNil)) (dVar 4))) (setF 3 (dOp fdivD (dVar 3) (dVar 4))))
def Lp_l_row_2 : Rho → SR := (seqF (setF 6 (dOp modD (dCall (g1 intD) (dCons (dOp addD (dOp addD (dOp mulX (dVar 0) (dC (.int 48271))) (dOp mulX (dVar 5) (dC (.int 69621)))) (dC (.int 11))) dNil)) (dC (.int 2147483647)))) (seqF (setF 6 (dOp modD (dCall (g1 intD) (dCons (dOp addD (dOp addD (dOp mulX (dVar 6) (dOp addD (dC (.int 16807)) (dOp mulX (dC (.int 2)) (dVar 5)))) (dOp mulX (dOp mulX (dVar 5) (dVar 5)) (dC (.int 40692)))) (dC (.int 7))) dNil)) (dC (.int 2147483399)))) (appF 2 (dOp modD (dCall (g1 intD) (dCons (dOp fdivD (dVar 6) (dC (.int 31))) dNil)) (dOp ixD (dVar 1) (dVar 5))))))
def Fb_l_row : Rho → SR := (seqF (setF 2 (dLst dNil)) (seqF (ifF (dT (dOp geD (dVar 0) (dC (.int 1000000000000000000)))) (seqF (setF 3 (dOp subD (dVar 0) (dC (.int 1000000000000000000)))) (seqF (forF (dIt itemsL (dVar 1)) (tgN 4) Lp_l_row_1) (retF (dVar 2)))) .nx) (seqF (forF (dIts rng1 (dCons (dCall (g1 lenD) (dCons (dVar 1) dNil)) dNil)) (tgN 5) Lp_l_row_2) (retF (dVar 2)))))
def F_l_row : List D → Res D := runF 7 false Fb_l_row
def Fb_l_number : Rho → SR := (retF (dAndV (dUn (isiD "int") (dVar 0)) (dNotV (dUn (isiD "bool") (dVar 0)))))
def F_l_number : List D → Res D := runF 1 false Fb_l_number
def Lp_l_same_1 (Fself : List D → Res D) : Rho → SR := (ifF (dNot (dT (dCall Fself (dCons (dOp ixD (dVar 0) (dVar 2)) (dCons (dOp ixD (dVar 1) (dVar 2)) dNil))))) (retF (dC (.bl false))) .nx)
def Fb_l_same (Fself : List D → Res D) : Rho → SR := (seqF (ifF (dT (dOp (isD false) (dVar 1) (dC .non))) (retF (dOp (isD false) (dVar 0) (dC .non))) .nx) (seqF (ifF (dT (dUn (isiD "bool") (dVar 1))) (retF (dAndV (dUn (isiD "bool") (dVar 0)) (dOp eqD (dVar 0) (dVar 1)))) .nx) (seqF (ifF (dT (dUn (isiD "int") (dVar 1))) (retF (dAndV (dUn (isiD "int") (dVar 0)) (dAndV (dNotV (dUn (isiD "bool") (dVar 0))) (dOp eqD (dVar 0) (dVar 1))))) .nx) (seqF (ifF (dT (dUn (isiD "str") (dVar 1))) (retF (dAndV (dUn (isiD "str") (dVar 0)) (dOp eqD (dVar 0) (dVar 1)))) .nx) (seqF (ifF (dAnd (dT (dUn (isiD "tuple") (dVar 1))) (dNot (dT (dUn (isiD "tuple") (dVar 0))))) (retF (dC (.bl false))) .nx) (seqF (ifF (dAnd (dT (dUn (isiD "list") (dVar 1))) (dNot (dT (dUn (isiD "list") (dVar 0))))) (retF (dC (.bl false))) .nx) (seqF (ifF (dOr (dT (dUn (isiD "tuple") (dVar 1))) (dT (dUn (isiD "list") (dVar 1)))) (seqF (ifF (dT (dOp neD (dCall (g1 lenD) (dCons (dVar 0) dNil)) (dCall (g1 lenD) (dCons (dVar 1) dNil)))) (retF (dC (.bl false))) .nx) (seqF (forF (dIts rng1 (dCons (dCall (g1 lenD) (dCons (dVar 1) dNil)) dNil)) (tgN 2) (Lp_l_same_1 Fself)) (retF (dC (.bl true))))) .nx) (retF (dC (.bl false))))))))))
def F_l_same : Nat → List D → Res D
  | 0 => fun _ => .bad
  | n + 1 => runF 3 false (Fb_l_same (F_l_same n))
def Fb_l_made_piece : Rho → SR := (seqF (setF 4 (dTup (dCons (dC (.str (Sg [98, 108, 97, 110, 107]))) (dCons (dOp ixD (dVar 0) (dC (.int 2))) dNil)))) (seqF (ifF (dTru (dVar 1)) (setF 4 (dTup (dCons (dC (.str (Sg [101, 110, 100]))) dNil))) (ifF (dT (dOp eqD (dOp ixD (dVar 0) (dC (.int 1))) (dC (.int 0)))) (setF 4 (dTup (dCons (dC (.str (Sg [106, 111, 105, 110, 116]))) (dCons (dOp ixD (dVar 0) (dC (.int 2))) dNil)))) .nx)) (seqF (setF 5 (dSl slD (dTup (dCons (dOp addD (dOp ixD (dVar 0) (dC (.int 4))) (dC (.int 1))) (dCons (dOp subD (dVar 3) (dOp ixD (dVar 0) (dC (.int 4)))) (dCons (dC (.int 1)) (dCons (dVar 3) dNil))))) dNoP (dPart (dOp ixD (dLst (dCons (dC (.int 2)) (dCons (dC (.int 1)) (dCons (dC (.int 3)) (dCons (dC (.int 4)) (dCons (dC (.int 1)) (dCons (dC (.int 0)) dNil))))))) (dCall (g2 (intsD min2)) (dCons (dOp ixD (dVar 0) (dC (.int 3))) (dCons (dC (.int 5)) dNil))))))) (seqF (setF 6 (dSl slD (dTup (dCons (dOp addD (dOp ixD (dVar 0) (dC (.int 6))) (dC (.int 1))) (dCons (dOp subD (dVar 3) (dOp ixD (dVar 0) (dC (.int 6)))) (dCons (dC (.int 1)) (dCons (dVar 3) dNil))))) dNoP (dPart (dCall (g2 (intsD min2)) (dCons (dVar 2) (dCons (dOp ixD (dLst (dCons (dC (.int 1)) (dCons (dC (.int 2)) (dCons (dC (.int 4)) (dCons (dC (.int 3)) (dCons (dC (.int 1)) (dCons (dC (.int 0)) dNil))))))) (dCall (g2 (intsD min2)) (dCons (dOp ixD (dVar 0) (dC (.int 5))) (dCons (dC (.int 5)) dNil)))) dNil)))))) (retF (dTup (dCons (dOp addD (dOp ixD (dVar 0) (dC (.int 0))) (dC (.int 1))) (dCons (dVar 4) (dCons (dVar 5) (dCons (dVar 6) dNil))))))))))
def F_l_made_piece : List D → Res D := runF 7 false Fb_l_made_piece
def Lp_l_made_blocks_1 : Rho → SR := (setF 5 (dOp addD (dVar 5) (dLst (dCons (dVar 3) (dCons (dC (.int 3)) (dCons (dOp addD (dVar 3) (dC (.int 1))) (dCons (dC (.int 16)) (dCons (dVar 4) (dCons (dC (.int 12)) (dCons (dVar 4) dNil))))))))))
def Lp_l_made_blocks_2 : Rho → SR := (seqF (setF 15 (dCall F_l_made_piece (dCons (dSl slD (dVar 12) (dPart (dOp addD (dOp mulX (dC (.int 7)) (dVar 6)) (dC (.int 5)))) (dPart (dOp addD (dOp mulX (dC (.int 7)) (dVar 6)) (dC (.int 12))))) (dCons (dOp eqD (dVar 6) (dOp subD (dVar 13) (dC (.int 1)))) (dCons (dVar 9) (dCons (dVar 4) dNil)))))) (seqF (setF 9 (dOp subD (dVar 9) (dCall (g1 lenD) (dCons (dOp ixD (dVar 15) (dC (.int 3))) dNil)))) (appF 14 (dVar 15))))
def Lp_l_made_blocks_3 : Rho → SR := (ifF (dT (dOp ltD (dVar 8) (dVar 1))) (seqF (setF 11 (dOp ixD (dVar 0) (dOp modD (dCall (g1 intD) (dCons (dVar 10) dNil)) (dCall (g1 lenD) (dCons (dVar 0) dNil))))) (seqF (setF 12 (dCall F_l_row (dCons (dOp addD (dVar 11) (dOp mulX (dC (.int 7919)) (dOp fdivD (dVar 10) (dCall (g1 lenD) (dCons (dVar 0) dNil))))) (dCons (dVar 5) dNil)))) (seqF (setF 13 (dCall (g2 (intsD min2)) (dCons (dOp addD (dOp ixD (dVar 12) (dC (.int 3))) (dC (.int 1))) (dCons (dOp subD (dVar 1) (dVar 8)) dNil)))) (seqF (setF 14 (dLst dNil)) (seqF (forF (dIts rng1 (dCons (dVar 13) dNil)) (tgN 6) Lp_l_made_blocks_2) (seqF (appF 7 (dTup (dCons (dOp addD (dOp ixD (dVar 12) (dC (.int 0))) (dC (.int 1))) (dCons (dOp ixD (dVar 12) (dC (.int 1))) (dCons (dOp ixD (dVar 12) (dC (.int 2))) (dCons (dOp eqD (dOp ixD (dVar 12) (dC (.int 4))) (dC (.int 1))) (dCons (dCall (g1 tupleD) (dCons (dVar 14) dNil)) dNil))))))) (setF 8 (dOp addD (dVar 8) (dVar 13))))))))) .nx)
def Fb_l_made_blocks : Rho → SR := (seqF (setF 5 (dLst (dCons (dVar 4) (dCons (dOp addD (dVar 3) (dC (.int 1))) (dCons (dOp addD (dVar 4) (dC (.int 1))) (dCons (dC (.int 6)) (dCons (dC (.int 2)) dNil))))))) (seqF (forF (dIts rng1 (dCons (dC (.int 6)) dNil)) (tgN 6) Lp_l_made_blocks_1) (seqF (parF3 7 8 9 (dLst dNil) (dC (.int 0)) (dVar 2)) (seqF (forF (dIts rng1 (dCons (dVar 1) dNil)) (tgN 10) Lp_l_made_blocks_3) (retF (dVar 7))))))
def F_l_made_blocks : List D → Res D := runF 16 false Fb_l_made_blocks
def Fb_l_cells_from : Rho → SR := (retF (dLc (dIts rng1 (dCons (dCall (g2 (intsD max2)) (dCons (dC (.int 1)) (dCons (dCall (g2 (intsD min2)) (dCons (dC (.int 8)) (dCons (dOp subD (dCall (g1 lenD) (dCons (dVar 0) dNil)) (dVar 1)) dNil))) dNil))) dNil)) (tgN 2) dYes (dCall F_l_cell (dCons (dVar 0) (dCons (dOp addD (dVar 1) (dVar 2)) dNil))) [2]))
def F_l_cells_from : List D → Res D := runF 3 false Fb_l_cells_from
def Lp_l_due_1 : Rho → SR := (seqF (setF 1 (dOp addD (dVar 1) (dC (.int 1)))) (setF 2 (dOp addD (dVar 2) (dCall (g1 lenD) (dCons (dOp ixD (dVar 4) (dC (.int 3))) dNil)))))
def Lp_l_due_2 : Rho → SR := (forF (dIt itemsT (dOp ixD (dVar 3) (dC (.int 4)))) (tgN 4) Lp_l_due_1)
def Fb_l_due : Rho → SR := (seqF (asgF (tgT 2 (tgCons (tgN 1) (tgCons (tgN 2) tgNil))) (dTup (dCons (dC (.int 0)) (dCons (dC (.int 0)) dNil)))) (seqF (forF (dIt itemsL (dVar 0)) (tgN 3) Lp_l_due_2) (seqF (ifF (dT (dOp gtD (dVar 1) (dC (.int 40)))) (retF (dVar 1)) .nx) (seqF (ifF (dT (dOp gtD (dVar 2) (dC (.int 4)))) (retF (dVar 2)) .nx) (retF (dC (.int 0)))))))
def F_l_due : List D → Res D := runF 5 false Fb_l_due
def Fb_l_refused : Rho → SR := (seqF (tryF isM_TooLarge 2 (dropF (dCall F_Galley_init (dCons (dCall (g1 listD) (dCons (dVar 0) dNil)) dNil))) (seqF (setF 3 (dAndV (dIsX isM_LaidError 2) (dNotV (dIsX isM_NoSuchNumber 2)))) (retF (dAndV (dVar 3) (dAndV (dCall F_l_number (dCons (dXf 2 "many") dNil)) (dOp eqD (dXf 2 "many") (dVar 1))))))) (retF (dC (.bl false))))
def F_l_refused : List D → Res D := runF 4 false Fb_l_refused
def Fb_l_sum_refused : Rho → SR := (seqF (tryF isM_TooLarge 3 (setF 0 (dOp (binX "Galley" F_Galley_add) (dVar 0) (dVar 1))) (retF (dAndV (dCall F_l_number (dCons (dXf 3 "many") dNil)) (dOp eqD (dXf 3 "many") (dVar 2))))) (retF (dC (.bl false))))
def F_l_sum_refused : List D → Res D := runF 4 false Fb_l_sum_refused
def F_l_added : List D → Res (D × D) := (runM 4 "Galley" isM_TooLarge F_Galley_iadd (retF (dAndV (dOp gtD (dVar 2) (dC (.int 0))) (dAndV (dCall F_l_number (dCons (dXf 3 "many") dNil)) (dOp eqD (dXf 3 "many") (dVar 2))))) (dOp eqD (dVar 2) (dC (.int 0))))
def Fb_l_no_piece : Rho → SR := (seqF (tryF isM_NoSuchNumber 2 (dropF (dMeth "Galley" "block_at" F_Galley_block_at (dVar 0) (dCons (dVar 1) dNil))) (seqF (setF 3 (dAndV (dIsX isM_LaidError 2) (dNotV (dIsX isM_TooLarge 2)))) (retF (dAndV (dVar 3) (dAndV (dCall F_l_number (dCons (dXf 2 "number") dNil)) (dOp eqD (dXf 2 "number") (dVar 1))))))) (retF (dC (.bl false))))
def F_l_no_piece : List D → Res D := runF 4 false Fb_l_no_piece
def Fb_l_equal : Rho → SR := (seqF (setF 3 (dOp (cmpV "Galley" F_Galley_eq) (dVar 0) (dVar 1))) (retF (dAndV (dUn (isiD "bool") (dVar 3)) (dOp eqD (dVar 3) (dVar 2)))))
def F_l_equal : List D → Res D := runF 4 false Fb_l_equal
def Lp_l_shows_1 : Rho → SR := (seqF (appF 2 (dTup (dCons (dVar 5) (dCons (dVar 6) (dCons (dOp addD (dVar 6) (dCall (g1 lenD) (dCons (dOp ixD (dOp ixD (dVar 1) (dVar 5)) (dC (.int 4))) dNil))) dNil))))) (seqF (appF 3 (dVar 7)) (setF 4 (dOp addL (dVar 4) (dCall (g1 listD) (dCons (dOp ixD (dVar 7) (dC (.int 3))) dNil))))))
def Lp_l_shows_2 : Rho → SR := (seqF (setF 6 (dCall (g1 lenD) (dCons (dVar 3) dNil))) (forF (dIt itemsT (dOp ixD (dOp ixD (dVar 1) (dVar 5)) (dC (.int 4)))) (tgN 7) Lp_l_shows_1))
def Lp_l_shows_3 : Rho → SR := (seqF (parF 10 11 (dProp "Galley" F_Galley_pieces (dVar 0)) (dProp "Galley" F_Galley_figures (dVar 0))) (seqF (ifF (dOr (dNot (dT (dCall (F_l_same 8) (dCons (dVar 10) (dCons (dVar 3) dNil))))) (dNot (dT (dCall (F_l_same 8) (dCons (dVar 11) (dCons (dVar 4) dNil)))))) (retF (dC (.bl false))) .nx) (seqF (appF 10 (dVar 9)) (insF 11 (dC (.int 0)) (dVar 9)))))
def Lp_l_shows_4 : Rho → SR := (ifF (dNot (dT (dCall (F_l_same 8) (dCons (dMeth "Galley" "block_at" F_Galley_block_at (dVar 0) (dCons (dVar 12) dNil)) (dCons (dOp ixD (dVar 2) (dVar 12)) dNil))))) (retF (dC (.bl false))) .nx)
def Lp_l_shows_5 : Rho → SR := (ifF (dNot (dT (dCall F_l_no_piece (dCons (dVar 0) (dCons (dVar 13) dNil))))) (retF (dC (.bl false))) .nx)
def Fb_l_shows : Rho → SR := (seqF (parF3 2 3 4 (dLst dNil) (dLst dNil) (dLst dNil)) (seqF (forF (dIts rng1 (dCons (dCall (g1 lenD) (dCons (dVar 1) dNil)) dNil)) (tgN 5) Lp_l_shows_2) (seqF (ifF (dOr (dT (dOp neD (dCall (g1 (lenO "Galley" F_Galley_len)) (dCons (dVar 0) dNil)) (dCall (g1 lenD) (dCons (dVar 3) dNil)))) (dNot (dT (dCall (F_l_same 8) (dCons (dLc (dIt (itO "Galley" "blocks") (dVar 0)) (tgN 8) dYes (dVar 8) [8]) (dCons (dVar 1) dNil)))))) (retF (dC (.bl false))) .nx) (seqF (forF (dIts rng1 (dCons (dC (.int 2)) dNil)) (tgN 9) Lp_l_shows_3) (seqF (forF (dIts rng1 (dCons (dCall (g1 lenD) (dCons (dVar 3) dNil)) dNil)) (tgN 12) Lp_l_shows_4) (seqF (forF (dIt itemsL (dLst (dCons (dUn negD (dC (.int 1))) (dCons (dCall (g1 lenD) (dCons (dVar 3) dNil)) (dCons (dOp addD (dCall (g1 lenD) (dCons (dVar 3) dNil)) (dC (.int 1))) (dCons (dOp subD (dUn negD (dC (.int 1))) (dCall (g1 lenD) (dCons (dVar 3) dNil))) dNil)))))) (tgN 13) Lp_l_shows_5) (retF (dC (.bl true)))))))))
def F_l_shows : List D → Res D := runF 14 false Fb_l_shows
def Fb_l_copied : Rho → SR := (seqF (setF 1 (dCall (g1 listD) (dCons (dVar 0) dNil))) (seqF (parF 2 3 (dCall F_Galley_init (dCons (dVar 1) dNil)) (dCall F_Galley_init (dCons (dVar 1) dNil))) (seqF (ifF (dNot (dT (dCall (F_l_same 8) (dCons (dVar 1) (dCons (dVar 0) dNil))))) (retF (dC (.bl false))) .nx) (seqF (revF 1) (seqF (appF 1 (dTup (dCons (dC (.int 1)) (dCons (dC (.int 0)) (dCons (dC (.int 0)) (dCons (dC (.bl false)) (dCons (dTup (dCons (dTup (dCons (dC (.int 1)) (dCons (dTup (dCons (dC (.str (Sg [101, 110, 100]))) dNil)) (dCons (dTup dNil) (dCons (dTup dNil) dNil))))) dNil)) dNil))))))) (seqF (ifF (dOr (dNot (dT (dCall F_l_shows (dCons (dVar 2) (dCons (dVar 0) dNil))))) (dNot (dT (dCall F_l_shows (dCons (dVar 3) (dCons (dVar 0) dNil)))))) (retF (dC (.bl false))) .nx) (retF (dAndV (dCall F_l_equal (dCons (dVar 2) (dCons (dVar 3) (dCons (dC (.bl true)) dNil)))) (dCall F_l_equal (dCons (dVar 2) (dCons (dCall (g1 listD) (dCons (dVar 0) dNil)) (dCons (dC (.bl false)) dNil))))))))))))
def F_l_copied : List D → Res D := runF 4 false Fb_l_copied
def Fb_l_next : Rho → SR := (seqF (ifF (dT (dOp ltD (dVar 0) (dC (.int 2000)))) (retF (dOp addD (dVar 0) (dC (.int 1)))) .nx) (retF (dOp subD (dVar 0) (dC (.int 1)))))
def F_l_next : List D → Res D := runF 1 false Fb_l_next
def Fb_l_near : Rho → SR := (seqF (setF 3 (dOp ixD (dVar 0) (dVar 1))) (seqF (parF 4 5 (dCall (g1 listD) (dCons (dSl slD (dVar 3) dNoP (dPart (dC (.int 4)))) dNil)) (dCall (g1 listD) (dCons (dOp ixD (dVar 3) (dC (.int 4))) dNil))) (seqF (ifF (dT (dOp ltD (dVar 2) (dC (.int 3)))) (stoF 4 (dVar 2) (dCall F_l_next (dCons (dOp ixD (dVar 3) (dVar 2)) dNil))) .nx) (seqF (ifF (dT (dOp eqD (dVar 2) (dC (.int 3)))) (stoF 4 (dC (.int 3)) (dNotV (dOp ixD (dVar 3) (dC (.int 3))))) .nx) (seqF (ifF (dT (dOp eqD (dVar 2) (dC (.int 4)))) (seqF (popF 5 (tgN 6)) (appF 5 (dTup (dCons (dCall F_l_next (dCons (dOp ixD (dVar 6) (dC (.int 0))) dNil)) (dCons (dOp ixD (dVar 6) (dC (.int 1))) (dCons (dOp ixD (dVar 6) (dC (.int 2))) (dCons (dOp ixD (dVar 6) (dC (.int 3))) dNil))))))) .nx) (retF (dOp addD (dOp addD (dSl slD (dVar 0) dNoP (dPart (dVar 1))) (dLst (dCons (dOp addD (dCall (g1 tupleD) (dCons (dVar 4) dNil)) (dTup (dCons (dCall (g1 tupleD) (dCons (dVar 5) dNil)) dNil))) dNil))) (dSl slD (dVar 0) (dPart (dOp addD (dVar 1) (dC (.int 1)))) dNoP))))))))
def F_l_near : List D → Res D := runF 7 false Fb_l_near
def Fb_l_joins : Rho → SR := (seqF (parF3 2 3 4 (dCall F_Galley_init (dCons (dCall (g1 listD) (dCons (dVar 0) dNil)) dNil)) (dCall F_Galley_init (dCons (dCall (g1 listD) (dCons (dVar 1) dNil)) dNil)) (dCall F_Galley_init (dCons (dCall (g1 listD) (dCons (dVar 0) dNil)) dNil))) (seqF (setF 5 (dCall F_l_due (dCons (dOp addD (dVar 0) (dVar 1)) dNil))) (seqF (ifF (dT (dOp gtD (dVar 5) (dC (.int 0)))) (seqF (ifM (orM (notM (pureM (dT (dCall F_l_sum_refused (dCons (dVar 2) (dCons (dVar 3) (dCons (dVar 5) dNil))))))) (notM (callMJ 4 3 F_l_added (dVar 5)))) (retF (dC (.bl false))) .nx) (retF (dAndV (dCall F_l_shows (dCons (dVar 2) (dCons (dVar 0) dNil))) (dAndV (dCall F_l_shows (dCons (dVar 3) (dCons (dVar 1) dNil))) (dCall F_l_shows (dCons (dVar 4) (dCons (dVar 0) dNil))))))) .nx) (seqF (setF 6 (dOp (binO "Galley" F_Galley_add) (dVar 2) (dVar 3))) (seqF (ifF (dOr (dNot (dT (dCall F_l_shows (dCons (dVar 6) (dCons (dOp addD (dVar 0) (dVar 1)) dNil))))) (dOr (dNot (dT (dCall F_l_shows (dCons (dVar 2) (dCons (dVar 0) dNil))))) (dNot (dT (dCall F_l_shows (dCons (dVar 3) (dCons (dVar 1) dNil))))))) (retF (dC (.bl false))) .nx) (seqF (ifM (orM (notM (callMJ 4 3 F_l_added (dC (.int 0)))) (orM (notM (pureM (dT (dCall F_l_shows (dCons (dVar 4) (dCons (dOp addD (dVar 0) (dVar 1)) dNil)))))) (notM (pureM (dT (dCall F_l_shows (dCons (dVar 3) (dCons (dVar 1) dNil)))))))) (retF (dC (.bl false))) .nx) (seqF (ifF (dOr (dNot (dT (dCall F_l_equal (dCons (dVar 4) (dCons (dVar 6) (dCons (dC (.bl true)) dNil)))))) (dNot (dT (dCall F_l_equal (dCons (dVar 4) (dCons (dVar 2) (dCons (dOp eqD (dCall (g1 lenD) (dCons (dVar 1) dNil)) (dC (.int 0))) dNil))))))) (retF (dC (.bl false))) .nx) (seqF (setF 7 (fun _ => F_Galley_init [.kt []])) (seqF (ifM (orM (notM (callMO 7 F_l_added (dCall F_Galley_init (dCons (dCall (g1 listD) (dCons (dVar 0) dNil)) dNil)) (dC (.int 0)))) (orM (notM (pureM (dT (dCall F_l_shows (dCons (dVar 7) (dCons (dVar 0) dNil)))))) (notM (pureM (dT (dCall F_l_shows (dCons (fun _ => F_Galley_init [.kt []]) (dCons (dLst dNil) dNil)))))))) (retF (dC (.bl false))) .nx) (seqF (setF 8 (dLst (dCons (dTup (dCons (dC (.int 1)) (dCons (dC (.int 0)) (dCons (dC (.int 0)) (dCons (dC (.bl false)) (dCons (dTup (dCons (dTup (dCons (dC (.int 1)) (dCons (dTup (dCons (dC (.str (Sg [101, 110, 100]))) dNil)) (dCons (dTup dNil) (dCons (dTup dNil) dNil))))) dNil)) dNil)))))) dNil))) (seqF (ifF (dT (dOp eqD (dCall F_l_due (dCons (dOp addD (dVar 1) (dVar 8)) dNil)) (dC (.int 0)))) (ifM (orM (notM (callMO 3 F_l_added (dCall F_Galley_init (dCons (dCall (g1 listD) (dCons (dVar 8) dNil)) dNil)) (dC (.int 0)))) (notM (pureM (dT (dCall F_l_shows (dCons (dVar 3) (dCons (dOp addD (dVar 1) (dVar 8)) dNil))))))) (retF (dC (.bl false))) .nx) .nx) (seqF (setF 9 (dCall F_l_due (dCons (dOp addD (dVar 0) (dVar 0)) dNil))) (seqF (ifM (notM (callMJ 2 2 F_l_added (dVar 9))) (retF (dC (.bl false))) .nx) (seqF (ifF (dNot (dT (dCall F_l_shows (dCons (dVar 2) (dCons (dOp addD (dVar 0) (dLc (dIt itemsL (dVar 0)) (tgN 10) (dT (dOp eqD (dVar 9) (dC (.int 0)))) (dVar 10) [10])) dNil))))) (retF (dC (.bl false))) .nx) (retF (dAndV (dCall F_l_shows (dCons (dVar 6) (dCons (dOp addD (dVar 0) (dVar 1)) dNil))) (dCall F_l_shows (dCons (dVar 4) (dCons (dOp addD (dVar 0) (dVar 1)) dNil)))))))))))))))))))
def F_l_joins : List D → Res D := runF 11 false Fb_l_joins
def Lp_law_1 : Rho → SR := (seqF (setF 8 (dCall F_l_due (dCons (dVar 7) dNil))) (seqF (ifF (dAnd (dT (dOp gtD (dVar 8) (dC (.int 0)))) (dNot (dT (dCall F_l_refused (dCons (dVar 7) (dCons (dVar 8) dNil)))))) (retF (dC (.bl false))) .nx) (ifF (dAnd (dT (dOp eqD (dVar 8) (dC (.int 0)))) (dNot (dT (dCall F_l_copied (dCons (dVar 7) dNil))))) (retF (dC (.bl false))) .nx)))
def Fb_law : Rho → SR := (seqF (setF 1 (dCall F_l_row (dCons (dCall F_l_cell (dCons (dVar 0) (dCons (dC (.int 0)) dNil))) (dCons (dLst (dCons (dC (.int 9)) (dCons (dC (.int 24)) (dCons (dC (.int 24)) (dCons (dC (.int 7)) (dCons (dC (.int 7)) (dCons (dC (.int 2)) (dCons (dC (.int 2)) (dCons (dC (.int 46)) (dCons (dC (.int 5)) dNil)))))))))) dNil)))) (seqF (setF 2 (dOp ixD (dLst (dCons (dTup (dCons (dC (.int 40)) (dCons (dC (.int 0)) dNil))) (dCons (dTup (dCons (dC (.int 41)) (dCons (dC (.int 0)) dNil))) (dCons (dTup (dCons (dC (.int 20)) (dCons (dC (.int 20)) dNil))) (dCons (dTup (dCons (dC (.int 20)) (dCons (dC (.int 21)) dNil))) (dCons (dTup (dCons (dC (.int 39)) (dCons (dC (.int 2)) dNil))) (dCons (dTup (dCons (dOp ixD (dVar 1) (dC (.int 1))) (dCons (dOp ixD (dVar 1) (dC (.int 2))) dNil))) dNil))))))) (dCall (g2 (intsD min2)) (dCons (dOp ixD (dVar 1) (dC (.int 0))) (dCons (dC (.int 5)) dNil))))) (seqF (parF 3 4 (dOp ixD (dLst (dCons (dC (.int 4)) (dCons (dC (.int 2000)) dNil))) (dOp ixD (dVar 1) (dC (.int 5)))) (dOp ixD (dLst (dCons (dC (.int 2)) (dCons (dC (.int 2000)) dNil))) (dOp ixD (dVar 1) (dC (.int 6))))) (seqF (setF 5 (dCall F_l_made_blocks (dCons (dCall F_l_cells_from (dCons (dVar 0) (dCons (dC (.int 1)) dNil))) (dCons (dOp ixD (dVar 2) (dC (.int 0))) (dCons (dOp ixD (dVar 1) (dC (.int 3))) (dCons (dVar 3) (dCons (dVar 4) dNil))))))) (seqF (setF 6 (dCall F_l_made_blocks (dCons (dCall F_l_cells_from (dCons (dVar 0) (dCons (dC (.int 9)) dNil))) (dCons (dOp ixD (dVar 2) (dC (.int 1))) (dCons (dOp ixD (dVar 1) (dC (.int 4))) (dCons (dVar 3) (dCons (dVar 4) dNil))))))) (seqF (forF (dIt itemsL (dLst (dCons (dLst dNil) (dCons (dVar 5) (dCons (dVar 6) (dCons (dOp addD (dVar 5) (dVar 6)) dNil)))))) (tgN 7) Lp_law_1) (seqF (ifF (dNot (dT (dCall F_l_shows (dCons (fun _ => F_Galley_init [.kt []]) (dCons (dLst dNil) dNil))))) (retF (dC (.bl false))) .nx) (seqF (ifF (dOr (dT (dOp gtD (dCall F_l_due (dCons (dVar 5) dNil)) (dC (.int 0)))) (dT (dOp gtD (dCall F_l_due (dCons (dVar 6) dNil)) (dC (.int 0))))) (retF (dC (.bl true))) .nx) (seqF (ifF (dT (dOp gtD (dCall (g1 lenD) (dCons (dVar 5) dNil)) (dC (.int 0)))) (seqF (setF 9 (dCall F_l_near (dCons (dVar 5) (dCons (dOp modD (dCall (g1 intD) (dCons (dOp ixD (dVar 1) (dC (.int 7))) dNil)) (dCall (g1 lenD) (dCons (dVar 5) dNil))) (dCons (dOp ixD (dVar 1) (dC (.int 8))) dNil))))) (ifF (dNot (dT (dCall F_l_equal (dCons (dCall F_Galley_init (dCons (dVar 9) dNil)) (dCons (dCall F_Galley_init (dCons (dCall (g1 listD) (dCons (dVar 5) dNil)) dNil)) (dCons (dC (.bl false)) dNil)))))) (retF (dC (.bl false))) .nx)) .nx) (retF (dCall F_l_joins (dCons (dVar 5) (dCons (dVar 6) dNil)))))))))))))
def F_law : List D → Res D := runF 10 false Fb_law
end
end Lk
end S_P_data
section S_MM_base
set_option Elab.async false
set_option linter.all false
set_option maxHeartbeats 2000000
set_option maxRecDepth 100000
namespace Lk
open PySem L2 Dx
local macro_rules
  | `(tactic| array_get_dec) => `(tactic| repeat (first
    | ((with_reducible apply Dx.rs_asSJ); · (first | omega | (simp only [List.length_append, List.length_cons, List.length_nil, List.length_map, List.length_range, List.length_replicate, List.length_reverse, List.length_take, List.length_drop]; omega)))
    | with_reducible refine Dx.rs_c ?_
    | with_reducible refine Dx.rs_op ?_
    | with_reducible refine Dx.rs_str ?_
    | with_reducible refine Dx.rs_asS ?_
    | with_reducible refine Dx.rs_un ?_
    | with_reducible refine Dx.rs_nil ?_
    | with_reducible refine Dx.rs_cons ?_
    | with_reducible refine Dx.rs_call ?_
    | with_reducible refine Dx.rs_T ?_
    | with_reducible refine Dx.rs_asB ?_
    | with_reducible refine Dx.rs_asI ?_
    | with_reducible refine Dx.rs_not ?_
    | with_reducible refine Dx.rs_and ?_
    | with_reducible refine Dx.rs_or ?_
    | with_reducible refine Dx.rs_andV ?_
    | with_reducible refine Dx.rs_orV ?_
    | with_reducible refine Dx.rs_notV ?_
    | with_reducible refine Dx.rs_chain ?_
    | with_reducible refine Dx.rs_noP ?_
    | with_reducible refine Dx.rs_part ?_
    | with_reducible refine Dx.rs_sl ?_
    | with_reducible refine Dx.rs_it ?_
    | with_reducible refine Dx.rs_its ?_
    | with_reducible refine Dx.rs_yes ?_
    | with_reducible refine Dx.rs_meth ?_
    | with_reducible refine Dx.rs_tru ?_
    | with_reducible refine Dx.rs_truB ?_
    | with_reducible refine Dx.rs_truI ?_
    | with_reducible refine Dx.rs_truL ?_
    | with_reducible refine Dx.rs_truT ?_
    | with_reducible refine Dx.rs_truN ?_
    | with_reducible refine Dx.rs_ifx ?_
    | with_reducible refine Dx.rs_add ?_
    | with_reducible refine Dx.rs_sub ?_
    | with_reducible refine Dx.rs_neg ?_
    | with_reducible refine Dx.rs_eqI ?_
    | with_reducible refine Dx.rs_neI ?_
    | with_reducible refine Dx.rs_eqS ?_
    | with_reducible refine Dx.rs_neS ?_
    | with_reducible refine Dx.rs_eqB ?_
    | with_reducible refine Dx.rs_neB ?_
    | with_reducible refine Dx.rs_lt ?_
    | with_reducible refine Dx.rs_le ?_
    | with_reducible refine Dx.rs_gt ?_
    | with_reducible refine Dx.rs_ge ?_
    | with_reducible refine Dx.rs_is ?_
    | with_reducible refine Dx.rs_isn ?_
    | with_reducible refine Dx.rs_inS ?_
    | with_reducible refine Dx.rs_ninS ?_
    | with_reducible refine Dx.rs_lenL ?_
    | with_reducible refine Dx.rs_lenF ?_
    | with_reducible refine Dx.rs_lenT ?_
    | with_reducible refine Dx.rs_int ?_
    | with_reducible refine Dx.rs_intB ?_
    | with_reducible refine Dx.rs_abs ?_
    | with_reducible refine Dx.rs_listL ?_
    | with_reducible refine Dx.rs_listT ?_
    | with_reducible refine Dx.rs_tupL ?_
    | with_reducible refine Dx.rs_tupT ?_
    | with_reducible refine Dx.rs_slL ?_
    | with_reducible refine Dx.rs_slO ?_
    | with_reducible refine Dx.rs_slT ?_
    | with_reducible refine Dx.rs_itsL ?_
    | with_reducible refine Dx.rs_itsT ?_
    | with_reducible refine Dx.rs_itsS ?_
    | with_reducible refine Dx.rs_enL ?_
    | with_reducible refine Dx.rs_enT ?_
    | with_reducible refine Dx.rs_enS ?_
    | with_reducible refine Dx.rs_ints ?_
    | with_reducible refine Dx.rs_sortI ?_
    | with_reducible refine Dx.rs_sum ?_
    | with_reducible refine Dx.rs_g2 ?_
    | with_reducible refine Dx.rs_all ?_
    | with_reducible refine Dx.rs_disp ?_
    | with_reducible refine Dx.rs_pnil ?_
    | with_reducible refine Dx.rs_pcons ?_
    | with_reducible refine Dx.rs_jnil ?_
    | with_reducible refine Dx.rs_jcons ?_
    | with_reducible refine Dx.rs_dJoin ?_
    | with_reducible refine Dx.rs_ord ?_
    | with_reducible refine Dx.rs_leS ?_
    | with_reducible refine Dx.rs_inKI ?_
    | with_reducible refine Dx.rs_inI ?_
    | with_reducible refine Dx.rs_ninI ?_
    | with_reducible refine Dx.rs_inTk ?_
    | with_reducible refine Dx.rs_getET ?_
    | with_reducible refine Dx.rs_dD0 ?_
    | with_reducible refine Dx.rs_listTk ?_
    | with_reducible refine Dx.rs_lenTk ?_
    | with_reducible refine Dx.rs_itTk ?_
    | with_reducible refine Dx.rs_end ?_
    | with_reducible refine Dx.rs_start ?_
    | with_reducible refine Dx.rs_star ?_
    | with_reducible refine Dx.rs_itemsL ?_
    | with_reducible refine Dx.rs_itemsT ?_
    | with_reducible refine Dx.rs_zipL ?_
    | with_reducible refine Dx.rs_zipS ?_
    | with_reducible refine Dx.rs_isi_non_bool ?_
    | with_reducible refine Dx.rs_isi_non_int ?_
    | with_reducible refine Dx.rs_isi_non_str ?_
    | with_reducible refine Dx.rs_isi_non_tuple ?_
    | with_reducible refine Dx.rs_isi_non_list ?_
    | with_reducible refine Dx.rs_isi_bl_bool ?_
    | with_reducible refine Dx.rs_isi_bl_int ?_
    | with_reducible refine Dx.rs_isi_bl_str ?_
    | with_reducible refine Dx.rs_isi_bl_tuple ?_
    | with_reducible refine Dx.rs_isi_bl_list ?_
    | with_reducible refine Dx.rs_isi_int_bool ?_
    | with_reducible refine Dx.rs_isi_int_int ?_
    | with_reducible refine Dx.rs_isi_int_str ?_
    | with_reducible refine Dx.rs_isi_int_tuple ?_
    | with_reducible refine Dx.rs_isi_int_list ?_
    | with_reducible refine Dx.rs_isi_str_bool ?_
    | with_reducible refine Dx.rs_isi_str_int ?_
    | with_reducible refine Dx.rs_isi_str_str ?_
    | with_reducible refine Dx.rs_isi_str_tuple ?_
    | with_reducible refine Dx.rs_isi_str_list ?_
    | with_reducible refine Dx.rs_isi_lst_bool ?_
    | with_reducible refine Dx.rs_isi_lst_int ?_
    | with_reducible refine Dx.rs_isi_lst_str ?_
    | with_reducible refine Dx.rs_isi_lst_tuple ?_
    | with_reducible refine Dx.rs_isi_lst_list ?_
    | with_reducible refine Dx.rs_isi_tup_bool ?_
    | with_reducible refine Dx.rs_isi_tup_int ?_
    | with_reducible refine Dx.rs_isi_tup_str ?_
    | with_reducible refine Dx.rs_isi_tup_tuple ?_
    | with_reducible refine Dx.rs_isi_tup_list ?_
    | with_reducible refine Dx.ss_nx ?_
    | with_reducible refine Dx.ss_bk ?_
    | with_reducible refine Dx.ss_ct ?_
    | with_reducible refine Dx.ss_seq ?_
    | with_reducible refine Dx.ss_set ?_
    | with_reducible refine Dx.ss_ret ?_
    | with_reducible refine Dx.ss_drop ?_
    | with_reducible refine Dx.ss_if ?_
    | with_reducible refine Dx.ss_par ?_
    | with_reducible refine Dx.ss_par3 ?_
    | with_reducible refine Dx.ss_aug ?_
    | ((with_reducible apply Dx.rs_var); · (rfl))
    | ((with_reducible apply Dx.rs_ixL); · (first | rfl | assumption))
    | ((with_reducible apply Dx.rs_ixF); · (first | rfl | assumption))
    | ((with_reducible apply Dx.rs_ixT); · (first | rfl | assumption))
    | ((with_reducible apply Dx.rs_fld); · (rfl))
    | ((with_reducible apply Dx.rs_isObj); · (decide))
    | ((with_reducible apply Dx.rs_mod); · (omega))
    | ((with_reducible apply Dx.rs_fdiv); · (omega))
    | ((with_reducible apply Dx.rs_addS); · ((first | exact Nat.le_of_ble_eq_true rfl | assumption | (refine Nat.le_trans (m := 100000) ?_ Dx.sz5; first | omega | (simp only [List.length_append, List.length_cons, List.length_nil, List.length_map, List.length_range, List.length_replicate, List.length_reverse, List.length_take, List.length_drop]; omega)))))
    | ((with_reducible apply Dx.rs_addT); · ((first | exact Nat.le_of_ble_eq_true rfl | assumption | (refine Nat.le_trans (m := 100000) ?_ Dx.sz5; first | omega | (simp only [List.length_append, List.length_cons, List.length_nil, List.length_map, List.length_range, List.length_replicate, List.length_reverse, List.length_take, List.length_drop]; omega)))))
    | ((with_reducible apply Dx.rs_addLL); · ((first | exact Nat.le_of_ble_eq_true rfl | assumption | (refine Nat.le_trans (m := 100000) ?_ Dx.sz5; first | omega | (simp only [List.length_append, List.length_cons, List.length_nil, List.length_map, List.length_range, List.length_replicate, List.length_reverse, List.length_take, List.length_drop]; omega)))))
    | ((with_reducible apply Dx.rs_addLO); · ((first | exact Nat.le_of_ble_eq_true rfl | assumption | (refine Nat.le_trans (m := 100000) ?_ Dx.sz5; first | omega | (simp only [List.length_append, List.length_cons, List.length_nil, List.length_map, List.length_range, List.length_replicate, List.length_reverse, List.length_take, List.length_drop]; omega)))))
    | ((with_reducible apply Dx.rs_lenS); · ((first | exact Nat.le_of_ble_eq_true rfl | assumption | (refine Nat.le_trans (m := 100000) ?_ Dx.sz5; first | omega | (simp only [List.length_append, List.length_cons, List.length_nil, List.length_map, List.length_range, List.length_replicate, List.length_reverse, List.length_take, List.length_drop]; omega)))))
    | ((with_reducible apply Dx.rs_slS); · ((first | exact Nat.le_of_ble_eq_true rfl | assumption | (refine Nat.le_trans (m := 100000) ?_ Dx.sz5; first | omega | (simp only [List.length_append, List.length_cons, List.length_nil, List.length_map, List.length_range, List.length_replicate, List.length_reverse, List.length_take, List.length_drop]; omega)))))
    | ((with_reducible apply Dx.rs_mul); · ((first | exact Or.inl (Dx.small_of (by omega) (by omega)) | exact Or.inr (Dx.small_of (by omega) (by omega)))))
    | ((with_reducible apply Dx.rs_strI); · (omega))
    | ((with_reducible apply Dx.rs_fmtI); · (omega))
    | ((with_reducible apply Dx.rs_fmtS); · ((first | exact Nat.le_of_ble_eq_true rfl | assumption | (refine Nat.le_trans (m := 100000) ?_ Dx.sz5; first | omega | (simp only [List.length_append, List.length_cons, List.length_nil, List.length_map, List.length_range, List.length_replicate, List.length_reverse, List.length_take, List.length_drop]; omega)))))
    | ((with_reducible apply Dx.rs_split); · (refine And.intro (by decide) ?_; (first | exact Nat.le_of_ble_eq_true rfl | assumption | (refine Nat.le_trans (m := 100000) ?_ Dx.sz5; first | omega | (simp only [List.length_append, List.length_cons, List.length_nil, List.length_map, List.length_range, List.length_replicate, List.length_reverse, List.length_take, List.length_drop]; omega)))))
    | ((with_reducible apply Dx.ss_app); · (rfl))
    | (with_reducible refine Dx.rs_tup ?_)
    | (with_reducible refine Dx.rs_lst ?_)
    | ((with_reducible refine And.intro (a := List.length _ ≤ PySem.sizeLine) ?_ ?_); · ((first | exact Nat.le_of_ble_eq_true rfl | assumption | (refine Nat.le_trans (m := 100000) ?_ Dx.sz5; first | omega | (simp only [List.length_append, List.length_cons, List.length_nil, List.length_map, List.length_range, List.length_replicate, List.length_reverse, List.length_take, List.length_drop]; omega)))))
    | ((with_reducible refine And.intro (a := List.length _ < PySem.sizeLine) ?_ ?_); · (first | exact Nat.le_of_ble_eq_true rfl | (refine Nat.lt_of_lt_of_le (m := 100000) ?_ Dx.sz5; first | omega | (simp only [List.length_append, List.length_cons, List.length_nil, List.length_map, List.length_range, List.length_replicate, List.length_reverse, List.length_take, List.length_drop]; omega))))))
local macro_rules
  | `(tactic| array_mem_dec) => `(tactic| repeat (first
    | with_reducible refine Dx.ss_ifo ?_
    | with_reducible refine Dx.ss_ifa ?_
    | with_reducible refine Dx.rs_andc ?_
    | with_reducible refine Dx.rs_orc ?_
    | with_reducible refine Dx.rs_andVc ?_
    | with_reducible refine Dx.rs_orVc ?_
    | ((with_reducible apply Dx.rs_asSJ); · (first | omega | (simp only [List.length_append, List.length_cons, List.length_nil, List.length_map, List.length_range, List.length_replicate, List.length_reverse, List.length_take, List.length_drop]; omega)))
    | with_reducible refine Dx.rs_c ?_
    | with_reducible refine Dx.rs_op ?_
    | with_reducible refine Dx.rs_str ?_
    | with_reducible refine Dx.rs_asS ?_
    | with_reducible refine Dx.rs_un ?_
    | with_reducible refine Dx.rs_nil ?_
    | with_reducible refine Dx.rs_cons ?_
    | with_reducible refine Dx.rs_call ?_
    | with_reducible refine Dx.rs_T ?_
    | with_reducible refine Dx.rs_asB ?_
    | with_reducible refine Dx.rs_asI ?_
    | with_reducible refine Dx.rs_not ?_
    | with_reducible refine Dx.rs_notV ?_
    | with_reducible refine Dx.rs_chain ?_
    | with_reducible refine Dx.rs_noP ?_
    | with_reducible refine Dx.rs_part ?_
    | with_reducible refine Dx.rs_sl ?_
    | with_reducible refine Dx.rs_it ?_
    | with_reducible refine Dx.rs_its ?_
    | with_reducible refine Dx.rs_yes ?_
    | with_reducible refine Dx.rs_meth ?_
    | with_reducible refine Dx.rs_tru ?_
    | with_reducible refine Dx.rs_truB ?_
    | with_reducible refine Dx.rs_truI ?_
    | with_reducible refine Dx.rs_truL ?_
    | with_reducible refine Dx.rs_truT ?_
    | with_reducible refine Dx.rs_truN ?_
    | with_reducible refine Dx.rs_add ?_
    | with_reducible refine Dx.rs_sub ?_
    | with_reducible refine Dx.rs_neg ?_
    | with_reducible refine Dx.rs_eqI ?_
    | with_reducible refine Dx.rs_neI ?_
    | with_reducible refine Dx.rs_eqS ?_
    | with_reducible refine Dx.rs_neS ?_
    | with_reducible refine Dx.rs_eqB ?_
    | with_reducible refine Dx.rs_neB ?_
    | with_reducible refine Dx.rs_lt ?_
    | with_reducible refine Dx.rs_le ?_
    | with_reducible refine Dx.rs_gt ?_
    | with_reducible refine Dx.rs_ge ?_
    | with_reducible refine Dx.rs_is ?_
    | with_reducible refine Dx.rs_isn ?_
    | with_reducible refine Dx.rs_inS ?_
    | with_reducible refine Dx.rs_ninS ?_
    | with_reducible refine Dx.rs_lenL ?_
    | with_reducible refine Dx.rs_lenF ?_
    | with_reducible refine Dx.rs_lenT ?_
    | with_reducible refine Dx.rs_int ?_
    | with_reducible refine Dx.rs_intB ?_
    | with_reducible refine Dx.rs_abs ?_
    | with_reducible refine Dx.rs_listL ?_
    | with_reducible refine Dx.rs_listT ?_
    | with_reducible refine Dx.rs_tupL ?_
    | with_reducible refine Dx.rs_tupT ?_
    | with_reducible refine Dx.rs_slL ?_
    | with_reducible refine Dx.rs_slO ?_
    | with_reducible refine Dx.rs_slT ?_
    | with_reducible refine Dx.rs_itsL ?_
    | with_reducible refine Dx.rs_itsT ?_
    | with_reducible refine Dx.rs_itsS ?_
    | with_reducible refine Dx.rs_enL ?_
    | with_reducible refine Dx.rs_enT ?_
    | with_reducible refine Dx.rs_enS ?_
    | with_reducible refine Dx.rs_ints ?_
    | with_reducible refine Dx.rs_sortI ?_
    | with_reducible refine Dx.rs_sum ?_
    | with_reducible refine Dx.rs_g2 ?_
    | with_reducible refine Dx.rs_all ?_
    | with_reducible refine Dx.rs_disp ?_
    | with_reducible refine Dx.rs_pnil ?_
    | with_reducible refine Dx.rs_pcons ?_
    | with_reducible refine Dx.rs_jnil ?_
    | with_reducible refine Dx.rs_jcons ?_
    | with_reducible refine Dx.rs_dJoin ?_
    | with_reducible refine Dx.rs_ord ?_
    | with_reducible refine Dx.rs_leS ?_
    | with_reducible refine Dx.rs_inKI ?_
    | with_reducible refine Dx.rs_inI ?_
    | with_reducible refine Dx.rs_ninI ?_
    | with_reducible refine Dx.rs_inTk ?_
    | with_reducible refine Dx.rs_getET ?_
    | with_reducible refine Dx.rs_dD0 ?_
    | with_reducible refine Dx.rs_listTk ?_
    | with_reducible refine Dx.rs_lenTk ?_
    | with_reducible refine Dx.rs_itTk ?_
    | with_reducible refine Dx.rs_end ?_
    | with_reducible refine Dx.rs_start ?_
    | with_reducible refine Dx.rs_star ?_
    | with_reducible refine Dx.rs_itemsL ?_
    | with_reducible refine Dx.rs_itemsT ?_
    | with_reducible refine Dx.rs_zipL ?_
    | with_reducible refine Dx.rs_zipS ?_
    | with_reducible refine Dx.rs_isi_non_bool ?_
    | with_reducible refine Dx.rs_isi_non_int ?_
    | with_reducible refine Dx.rs_isi_non_str ?_
    | with_reducible refine Dx.rs_isi_non_tuple ?_
    | with_reducible refine Dx.rs_isi_non_list ?_
    | with_reducible refine Dx.rs_isi_bl_bool ?_
    | with_reducible refine Dx.rs_isi_bl_int ?_
    | with_reducible refine Dx.rs_isi_bl_str ?_
    | with_reducible refine Dx.rs_isi_bl_tuple ?_
    | with_reducible refine Dx.rs_isi_bl_list ?_
    | with_reducible refine Dx.rs_isi_int_bool ?_
    | with_reducible refine Dx.rs_isi_int_int ?_
    | with_reducible refine Dx.rs_isi_int_str ?_
    | with_reducible refine Dx.rs_isi_int_tuple ?_
    | with_reducible refine Dx.rs_isi_int_list ?_
    | with_reducible refine Dx.rs_isi_str_bool ?_
    | with_reducible refine Dx.rs_isi_str_int ?_
    | with_reducible refine Dx.rs_isi_str_str ?_
    | with_reducible refine Dx.rs_isi_str_tuple ?_
    | with_reducible refine Dx.rs_isi_str_list ?_
    | with_reducible refine Dx.rs_isi_lst_bool ?_
    | with_reducible refine Dx.rs_isi_lst_int ?_
    | with_reducible refine Dx.rs_isi_lst_str ?_
    | with_reducible refine Dx.rs_isi_lst_tuple ?_
    | with_reducible refine Dx.rs_isi_lst_list ?_
    | with_reducible refine Dx.rs_isi_tup_bool ?_
    | with_reducible refine Dx.rs_isi_tup_int ?_
    | with_reducible refine Dx.rs_isi_tup_str ?_
    | with_reducible refine Dx.rs_isi_tup_tuple ?_
    | with_reducible refine Dx.rs_isi_tup_list ?_
    | with_reducible refine Dx.ss_nx ?_
    | with_reducible refine Dx.ss_bk ?_
    | with_reducible refine Dx.ss_ct ?_
    | with_reducible refine Dx.ss_seq ?_
    | with_reducible refine Dx.ss_set ?_
    | with_reducible refine Dx.ss_ret ?_
    | with_reducible refine Dx.ss_drop ?_
    | with_reducible refine Dx.ss_if ?_
    | with_reducible refine Dx.ss_par ?_
    | with_reducible refine Dx.ss_par3 ?_
    | with_reducible refine Dx.ss_aug ?_
    | ((with_reducible apply Dx.rs_var); · (rfl))
    | ((with_reducible apply Dx.rs_ixL); · (first | rfl | assumption))
    | ((with_reducible apply Dx.rs_ixF); · (first | rfl | assumption))
    | ((with_reducible apply Dx.rs_ixT); · (first | rfl | assumption))
    | ((with_reducible apply Dx.rs_fld); · (rfl))
    | ((with_reducible apply Dx.rs_isObj); · (decide))
    | ((with_reducible apply Dx.rs_mod); · (omega))
    | ((with_reducible apply Dx.rs_fdiv); · (omega))
    | ((with_reducible apply Dx.rs_addS); · ((first | exact Nat.le_of_ble_eq_true rfl | assumption | (refine Nat.le_trans (m := 100000) ?_ Dx.sz5; first | omega | (simp only [List.length_append, List.length_cons, List.length_nil, List.length_map, List.length_range, List.length_replicate, List.length_reverse, List.length_take, List.length_drop]; omega)))))
    | ((with_reducible apply Dx.rs_addT); · ((first | exact Nat.le_of_ble_eq_true rfl | assumption | (refine Nat.le_trans (m := 100000) ?_ Dx.sz5; first | omega | (simp only [List.length_append, List.length_cons, List.length_nil, List.length_map, List.length_range, List.length_replicate, List.length_reverse, List.length_take, List.length_drop]; omega)))))
    | ((with_reducible apply Dx.rs_addLL); · ((first | exact Nat.le_of_ble_eq_true rfl | assumption | (refine Nat.le_trans (m := 100000) ?_ Dx.sz5; first | omega | (simp only [List.length_append, List.length_cons, List.length_nil, List.length_map, List.length_range, List.length_replicate, List.length_reverse, List.length_take, List.length_drop]; omega)))))
    | ((with_reducible apply Dx.rs_addLO); · ((first | exact Nat.le_of_ble_eq_true rfl | assumption | (refine Nat.le_trans (m := 100000) ?_ Dx.sz5; first | omega | (simp only [List.length_append, List.length_cons, List.length_nil, List.length_map, List.length_range, List.length_replicate, List.length_reverse, List.length_take, List.length_drop]; omega)))))
    | ((with_reducible apply Dx.rs_lenS); · ((first | exact Nat.le_of_ble_eq_true rfl | assumption | (refine Nat.le_trans (m := 100000) ?_ Dx.sz5; first | omega | (simp only [List.length_append, List.length_cons, List.length_nil, List.length_map, List.length_range, List.length_replicate, List.length_reverse, List.length_take, List.length_drop]; omega)))))
    | ((with_reducible apply Dx.rs_slS); · ((first | exact Nat.le_of_ble_eq_true rfl | assumption | (refine Nat.le_trans (m := 100000) ?_ Dx.sz5; first | omega | (simp only [List.length_append, List.length_cons, List.length_nil, List.length_map, List.length_range, List.length_replicate, List.length_reverse, List.length_take, List.length_drop]; omega)))))
    | ((with_reducible apply Dx.rs_mul); · ((first | exact Or.inl (Dx.small_of (by omega) (by omega)) | exact Or.inr (Dx.small_of (by omega) (by omega)))))
    | ((with_reducible apply Dx.rs_strI); · (omega))
    | ((with_reducible apply Dx.rs_fmtI); · (omega))
    | ((with_reducible apply Dx.rs_fmtS); · ((first | exact Nat.le_of_ble_eq_true rfl | assumption | (refine Nat.le_trans (m := 100000) ?_ Dx.sz5; first | omega | (simp only [List.length_append, List.length_cons, List.length_nil, List.length_map, List.length_range, List.length_replicate, List.length_reverse, List.length_take, List.length_drop]; omega)))))
    | ((with_reducible apply Dx.rs_split); · (refine And.intro (by decide) ?_; (first | exact Nat.le_of_ble_eq_true rfl | assumption | (refine Nat.le_trans (m := 100000) ?_ Dx.sz5; first | omega | (simp only [List.length_append, List.length_cons, List.length_nil, List.length_map, List.length_range, List.length_replicate, List.length_reverse, List.length_take, List.length_drop]; omega)))))
    | ((with_reducible apply Dx.ss_app); · (rfl))
    | (with_reducible refine Dx.rs_tup ?_)
    | (with_reducible refine Dx.rs_lst ?_)
    | ((with_reducible refine And.intro (a := List.length _ ≤ PySem.sizeLine) ?_ ?_); · ((first | exact Nat.le_of_ble_eq_true rfl | assumption | (refine Nat.le_trans (m := 100000) ?_ Dx.sz5; first | omega | (simp only [List.length_append, List.length_cons, List.length_nil, List.length_map, List.length_range, List.length_replicate, List.length_reverse, List.length_take, List.length_drop]; omega)))))
    | ((with_reducible refine And.intro (a := List.length _ < PySem.sizeLine) ?_ ?_); · (first | exact Nat.le_of_ble_eq_true rfl | (refine Nat.lt_of_lt_of_le (m := 100000) ?_ Dx.sz5; first | omega | (simp only [List.length_append, List.length_cons, List.length_nil, List.length_map, List.length_range, List.length_replicate, List.length_reverse, List.length_take, List.length_drop]; omega))))
    | ((refine And.intro (fun h => absurd h ?_) (fun _ => ?_)); · (first | exact Bool.false_ne_true | (simp; done) | (simp; omega)))
    | ((refine And.intro (fun _ => ?_) (fun h => absurd h ?_)); rotate_left; · (first | exact (fun h => Bool.false_ne_true h.symm) | (simp; done) | (simp; omega)))))
local macro_rules
  | `(tactic| sizeOf_list_dec) => `(tactic| repeat (first
    | ((with_reducible apply Dx.rs_asSJ); · (first | omega | (simp only [List.length_append, List.length_cons, List.length_nil, List.length_map, List.length_range, List.length_replicate, List.length_reverse, List.length_take, List.length_drop]; omega)))
    | with_reducible refine Dx.rs_c ?_
    | with_reducible refine Dx.rs_op ?_
    | with_reducible refine Dx.rs_str ?_
    | with_reducible refine Dx.rs_asS ?_
    | with_reducible refine Dx.rs_un ?_
    | with_reducible refine Dx.rs_nil ?_
    | with_reducible refine Dx.rs_cons ?_
    | with_reducible refine Dx.rs_call ?_
    | with_reducible refine Dx.rs_T ?_
    | with_reducible refine Dx.rs_asB ?_
    | with_reducible refine Dx.rs_asI ?_
    | with_reducible refine Dx.rs_not ?_
    | with_reducible refine Dx.rs_and ?_
    | with_reducible refine Dx.rs_or ?_
    | with_reducible refine Dx.rs_andV ?_
    | with_reducible refine Dx.rs_orV ?_
    | with_reducible refine Dx.rs_notV ?_
    | with_reducible refine Dx.rs_chain ?_
    | with_reducible refine Dx.rs_noP ?_
    | with_reducible refine Dx.rs_part ?_
    | with_reducible refine Dx.rs_sl ?_
    | with_reducible refine Dx.rs_it ?_
    | with_reducible refine Dx.rs_its ?_
    | with_reducible refine Dx.rs_yes ?_
    | with_reducible refine Dx.rs_meth ?_
    | with_reducible refine Dx.rs_tru ?_
    | with_reducible refine Dx.rs_truB ?_
    | with_reducible refine Dx.rs_truI ?_
    | with_reducible refine Dx.rs_truL ?_
    | with_reducible refine Dx.rs_truT ?_
    | with_reducible refine Dx.rs_truN ?_
    | with_reducible refine Dx.rs_ifx ?_
    | with_reducible refine Dx.rs_add ?_
    | with_reducible refine Dx.rs_sub ?_
    | with_reducible refine Dx.rs_neg ?_
    | with_reducible refine Dx.rs_eqI ?_
    | with_reducible refine Dx.rs_neI ?_
    | with_reducible refine Dx.rs_eqS ?_
    | with_reducible refine Dx.rs_neS ?_
    | with_reducible refine Dx.rs_eqB ?_
    | with_reducible refine Dx.rs_neB ?_
    | with_reducible refine Dx.rs_lt ?_
    | with_reducible refine Dx.rs_le ?_
    | with_reducible refine Dx.rs_gt ?_
    | with_reducible refine Dx.rs_ge ?_
    | with_reducible refine Dx.rs_is ?_
    | with_reducible refine Dx.rs_isn ?_
    | with_reducible refine Dx.rs_inS ?_
    | with_reducible refine Dx.rs_ninS ?_
    | with_reducible refine Dx.rs_lenL ?_
    | with_reducible refine Dx.rs_lenF ?_
    | with_reducible refine Dx.rs_lenT ?_
    | with_reducible refine Dx.rs_int ?_
    | with_reducible refine Dx.rs_intB ?_
    | with_reducible refine Dx.rs_abs ?_
    | with_reducible refine Dx.rs_listL ?_
    | with_reducible refine Dx.rs_listT ?_
    | with_reducible refine Dx.rs_tupL ?_
    | with_reducible refine Dx.rs_tupT ?_
    | with_reducible refine Dx.rs_slL ?_
    | with_reducible refine Dx.rs_slO ?_
    | with_reducible refine Dx.rs_slT ?_
    | with_reducible refine Dx.rs_itsL ?_
    | with_reducible refine Dx.rs_itsT ?_
    | with_reducible refine Dx.rs_itsS ?_
    | with_reducible refine Dx.rs_enL ?_
    | with_reducible refine Dx.rs_enT ?_
    | with_reducible refine Dx.rs_enS ?_
    | with_reducible refine Dx.rs_ints ?_
    | with_reducible refine Dx.rs_sortI ?_
    | with_reducible refine Dx.rs_sum ?_
    | with_reducible refine Dx.rs_g2 ?_
    | with_reducible refine Dx.rs_all ?_
    | with_reducible refine Dx.rs_disp ?_
    | with_reducible refine Dx.rs_pnil ?_
    | with_reducible refine Dx.rs_pcons ?_
    | with_reducible refine Dx.rs_jnil ?_
    | with_reducible refine Dx.rs_jcons ?_
    | with_reducible refine Dx.rs_dJoin ?_
    | with_reducible refine Dx.rs_ord ?_
    | with_reducible refine Dx.rs_leS ?_
    | with_reducible refine Dx.rs_inKI ?_
    | with_reducible refine Dx.rs_inI ?_
    | with_reducible refine Dx.rs_ninI ?_
    | with_reducible refine Dx.rs_inTk ?_
    | with_reducible refine Dx.rs_getET ?_
    | with_reducible refine Dx.rs_dD0 ?_
    | with_reducible refine Dx.rs_listTk ?_
    | with_reducible refine Dx.rs_lenTk ?_
    | with_reducible refine Dx.rs_itTk ?_
    | with_reducible refine Dx.rs_end ?_
    | with_reducible refine Dx.rs_start ?_
    | with_reducible refine Dx.rs_star ?_
    | with_reducible refine Dx.rs_itemsL ?_
    | with_reducible refine Dx.rs_itemsT ?_
    | with_reducible refine Dx.rs_zipL ?_
    | with_reducible refine Dx.rs_zipS ?_
    | with_reducible refine Dx.rs_isi_non_bool ?_
    | with_reducible refine Dx.rs_isi_non_int ?_
    | with_reducible refine Dx.rs_isi_non_str ?_
    | with_reducible refine Dx.rs_isi_non_tuple ?_
    | with_reducible refine Dx.rs_isi_non_list ?_
    | with_reducible refine Dx.rs_isi_bl_bool ?_
    | with_reducible refine Dx.rs_isi_bl_int ?_
    | with_reducible refine Dx.rs_isi_bl_str ?_
    | with_reducible refine Dx.rs_isi_bl_tuple ?_
    | with_reducible refine Dx.rs_isi_bl_list ?_
    | with_reducible refine Dx.rs_isi_int_bool ?_
    | with_reducible refine Dx.rs_isi_int_int ?_
    | with_reducible refine Dx.rs_isi_int_str ?_
    | with_reducible refine Dx.rs_isi_int_tuple ?_
    | with_reducible refine Dx.rs_isi_int_list ?_
    | with_reducible refine Dx.rs_isi_str_bool ?_
    | with_reducible refine Dx.rs_isi_str_int ?_
    | with_reducible refine Dx.rs_isi_str_str ?_
    | with_reducible refine Dx.rs_isi_str_tuple ?_
    | with_reducible refine Dx.rs_isi_str_list ?_
    | with_reducible refine Dx.rs_isi_lst_bool ?_
    | with_reducible refine Dx.rs_isi_lst_int ?_
    | with_reducible refine Dx.rs_isi_lst_str ?_
    | with_reducible refine Dx.rs_isi_lst_tuple ?_
    | with_reducible refine Dx.rs_isi_lst_list ?_
    | with_reducible refine Dx.rs_isi_tup_bool ?_
    | with_reducible refine Dx.rs_isi_tup_int ?_
    | with_reducible refine Dx.rs_isi_tup_str ?_
    | with_reducible refine Dx.rs_isi_tup_tuple ?_
    | with_reducible refine Dx.rs_isi_tup_list ?_
    | with_reducible refine Dx.ss_nx ?_
    | with_reducible refine Dx.ss_bk ?_
    | with_reducible refine Dx.ss_ct ?_
    | with_reducible refine Dx.ss_seq ?_
    | with_reducible refine Dx.ss_set ?_
    | with_reducible refine Dx.ss_ret ?_
    | with_reducible refine Dx.ss_drop ?_
    | with_reducible refine Dx.ss_if ?_
    | with_reducible refine Dx.ss_par ?_
    | with_reducible refine Dx.ss_par3 ?_
    | with_reducible refine Dx.ss_aug ?_
    | ((with_reducible apply Dx.rs_var); · (rfl))
    | ((with_reducible apply Dx.rs_ixL); · (first | rfl | assumption))
    | ((with_reducible apply Dx.rs_ixF); · (first | rfl | assumption))
    | ((with_reducible apply Dx.rs_ixT); · (first | rfl | assumption))
    | ((with_reducible apply Dx.rs_fld); · (rfl))
    | ((with_reducible apply Dx.rs_isObj); · (decide))
    | ((with_reducible apply Dx.rs_mod); · (omega))
    | ((with_reducible apply Dx.rs_fdiv); · (omega))
    | ((with_reducible apply Dx.rs_addS); · ((first | exact Nat.le_of_ble_eq_true rfl | assumption | (refine Nat.le_trans (m := 100000) ?_ Dx.sz5; first | omega | (simp only [List.length_append, List.length_cons, List.length_nil, List.length_map, List.length_range, List.length_replicate, List.length_reverse, List.length_take, List.length_drop]; omega)))))
    | ((with_reducible apply Dx.rs_addT); · ((first | exact Nat.le_of_ble_eq_true rfl | assumption | (refine Nat.le_trans (m := 100000) ?_ Dx.sz5; first | omega | (simp only [List.length_append, List.length_cons, List.length_nil, List.length_map, List.length_range, List.length_replicate, List.length_reverse, List.length_take, List.length_drop]; omega)))))
    | ((with_reducible apply Dx.rs_addLL); · ((first | exact Nat.le_of_ble_eq_true rfl | assumption | (refine Nat.le_trans (m := 100000) ?_ Dx.sz5; first | omega | (simp only [List.length_append, List.length_cons, List.length_nil, List.length_map, List.length_range, List.length_replicate, List.length_reverse, List.length_take, List.length_drop]; omega)))))
    | ((with_reducible apply Dx.rs_addLO); · ((first | exact Nat.le_of_ble_eq_true rfl | assumption | (refine Nat.le_trans (m := 100000) ?_ Dx.sz5; first | omega | (simp only [List.length_append, List.length_cons, List.length_nil, List.length_map, List.length_range, List.length_replicate, List.length_reverse, List.length_take, List.length_drop]; omega)))))
    | ((with_reducible apply Dx.rs_lenS); · ((first | exact Nat.le_of_ble_eq_true rfl | assumption | (refine Nat.le_trans (m := 100000) ?_ Dx.sz5; first | omega | (simp only [List.length_append, List.length_cons, List.length_nil, List.length_map, List.length_range, List.length_replicate, List.length_reverse, List.length_take, List.length_drop]; omega)))))
    | ((with_reducible apply Dx.rs_slS); · ((first | exact Nat.le_of_ble_eq_true rfl | assumption | (refine Nat.le_trans (m := 100000) ?_ Dx.sz5; first | omega | (simp only [List.length_append, List.length_cons, List.length_nil, List.length_map, List.length_range, List.length_replicate, List.length_reverse, List.length_take, List.length_drop]; omega)))))
    | ((with_reducible apply Dx.rs_mul); · ((first | exact Or.inl (Dx.small_of (by omega) (by omega)) | exact Or.inr (Dx.small_of (by omega) (by omega)))))
    | ((with_reducible apply Dx.rs_strI); · (omega))
    | ((with_reducible apply Dx.rs_fmtI); · (omega))
    | ((with_reducible apply Dx.rs_fmtS); · ((first | exact Nat.le_of_ble_eq_true rfl | assumption | (refine Nat.le_trans (m := 100000) ?_ Dx.sz5; first | omega | (simp only [List.length_append, List.length_cons, List.length_nil, List.length_map, List.length_range, List.length_replicate, List.length_reverse, List.length_take, List.length_drop]; omega)))))
    | ((with_reducible apply Dx.rs_split); · (refine And.intro (by decide) ?_; (first | exact Nat.le_of_ble_eq_true rfl | assumption | (refine Nat.le_trans (m := 100000) ?_ Dx.sz5; first | omega | (simp only [List.length_append, List.length_cons, List.length_nil, List.length_map, List.length_range, List.length_replicate, List.length_reverse, List.length_take, List.length_drop]; omega)))))
    | ((with_reducible apply Dx.ss_app); · (rfl))
    | (with_reducible refine Dx.rs_tup ?_)
    | (with_reducible refine Dx.rs_lst ?_)
    | ((with_reducible refine And.intro (a := List.length _ ≤ PySem.sizeLine) ?_ ?_); · ((first | exact Nat.le_of_ble_eq_true rfl | assumption | (refine Nat.le_trans (m := 100000) ?_ Dx.sz5; first | omega | (simp only [List.length_append, List.length_cons, List.length_nil, List.length_map, List.length_range, List.length_replicate, List.length_reverse, List.length_take, List.length_drop]; omega)))))
    | ((with_reducible refine And.intro (a := List.length _ < PySem.sizeLine) ?_ ?_); · (first | exact Nat.le_of_ble_eq_true rfl | (refine Nat.lt_of_lt_of_le (m := 100000) ?_ Dx.sz5; first | omega | (simp only [List.length_append, List.length_cons, List.length_nil, List.length_map, List.length_range, List.length_replicate, List.length_reverse, List.length_take, List.length_drop]; omega))))
    | ((refine And.intro (fun h => absurd h ?_) (fun _ => ?_)); · (first | exact Bool.false_ne_true | (simp; done) | (simp; omega)))
    | ((refine And.intro (fun _ => ?_) (fun h => absurd h ?_)); rotate_left; · (first | exact (fun h => Bool.false_ne_true h.symm) | (simp; done) | (simp; omega)))))
section
theorem cell_eq (ns : List Int) (k : Nat) : F_l_cell [.fz (ns.map D.int), .int k] = .ok (.int (ns.getD k 0)) := Rs.eq (by
  refine rs_run ?_
  unfold Fb_l_cell
  array_get_dec
  refine ⟨fun h => ?_, fun h => ?_⟩
  · have h := of_decide_eq_true h
    rw [List.length_map] at h
    have hk : k < ns.length := by omega
    array_get_dec
    refine rs_ixF (atI_nat (by rw [List.getElem?_map, List.getElem?_eq_getElem hk]; rfl)) ?_
    array_get_dec
    rw [List.getD_eq_getElem?_getD, List.getElem?_eq_getElem hk]; rfl
  · have h := of_decide_eq_false h
    rw [List.length_map] at h
    have hk : ns.length ≤ k := by omega
    array_get_dec
    rw [List.getD_eq_getElem?_getD, List.getElem?_eq_none hk]; rfl)
theorem row_sp (c : Int) (ls : List Int) (hl : ∀ l ∈ ls, 0 < l ∧ l < 4611686018427387904) (hn : ls.length < 10000) : Rs (F_l_row [.int c, iL ls]) (fun d => ∃ vs, d = iL vs ∧ Fit vs ls) nE := by
  refine rs_run ?_
  unfold Fb_l_row
  array_get_dec
  refine ⟨fun hc => ?_, fun hc => ?_⟩
  · array_get_dec
    refine ss_each D.int ls (fun i r => ∃ vs rest y, Fit vs (ls.take i) ∧ r = [some (.int c), some (iL ls), some (iL vs), some (.int rest), y, none, none]) ?_ ?_ ?_ ?_
    · array_get_dec; rfl
    · exact ⟨[], _, none, trivial, rfl⟩
    · rintro i l r hi ⟨vs, rest, y, hf, rfl⟩
      have hl := hl l (List.mem_of_getElem? hi)
      have hlen := hf.len
      rw [List.length_take] at hlen
      unfold Lp_l_row_1
      array_get_dec
      refine ⟨vs ++ [rest % l], rest / l, some (.int l), ?_, by simp [iL]⟩
      rw [take_snoc hi]
      exact hf.snoc (Int.emod_nonneg _ (by omega)) (Int.emod_lt_of_pos _ hl.1)
    · rintro r ⟨vs, rest, y, hf, rfl⟩
      rw [List.take_length] at hf
      array_get_dec
      exact ⟨vs, rfl, hf⟩
  · array_get_dec
    refine ss_rng ls.length (fun i r => ∃ vs y z, Fit vs (ls.take i) ∧ r = [some (.int c), some (iL ls), some (iL vs), none, none, y, z]) ?_ (by omega) ?_ ?_ ?_
    · array_get_dec
      rw [List.length_map]
    · exact ⟨[], none, none, trivial, rfl⟩
    · rintro k r hk ⟨vs, y, z, hf, rfl⟩
      have hlen := hf.len
      rw [List.length_take] at hlen
      have hg : ls[k]? = some ls[k] := List.getElem?_eq_getElem hk
      have hl := hl ls[k] (List.getElem_mem hk)
      generalize ls[k] = l at hg hl
      unfold Lp_l_row_2
      array_get_dec
      refine rs_ixL (d := .int l) (atI_nat (by rw [List.getElem?_map, hg]; rfl)) ?_
      array_get_dec
      refine ⟨vs ++ [_], _, _, ?_, by simp [iL]; exact ⟨rfl, rfl, rfl⟩⟩
      rw [take_snoc hg]
      exact hf.snoc (Int.emod_nonneg _ (by omega)) (Int.emod_lt_of_pos _ hl.1)
    · rintro r ⟨vs, y, z, hf, rfl⟩
      rw [List.take_length] at hf
      array_get_dec
      exact ⟨vs, rfl, hf⟩
end
section
theorem row_of (c : Int) (ls : List Int) {Q : D → Prop} {E : Str → List Str → List D → Prop} (hl : ∀ l ∈ ls, 0 < l ∧ l < 4611686018427387904) (hn : ls.length < 10000) (q : ∀ vs, Fit vs ls → Q (iL vs)) : Rs (F_l_row [.int c, iL ls]) Q E := (row_sp c ls hl hn).imp fun d ⟨vs, e, h⟩ => by subst e; exact q vs h
theorem same_int (n : Nat) (i : Int) : F_l_same (n + 1) [.int i, .int i] = .ok (.bl true) := Rs.eq (by
  refine rs_run ?_
  unfold Fb_l_same
  sizeOf_list_dec
  simp)
theorem same_bl (n : Nat) (i : Bool) : F_l_same (n + 1) [.bl i, .bl i] = .ok (.bl true) := Rs.eq (by
  refine rs_run ?_
  unfold Fb_l_same
  sizeOf_list_dec
  simp)
theorem same_str (n : Nat) (l : List Nat) : F_l_same (n + 1) [.str (Sg l), .str (Sg l)] = .ok (.bl true) := Rs.eq (by
  refine rs_run ?_
  unfold Fb_l_same
  sizeOf_list_dec
  simp)
theorem same_lst (n : Nat) (ds : List D) (hl : ds.length ≤ 10000) (h : ∀ d ∈ ds, F_l_same n [d, d] = .ok (.bl true)) : F_l_same (n + 1) [.lst ds, .lst ds] = .ok (.bl true) := Rs.eq (by
  refine rs_run ?_
  unfold Fb_l_same
  sizeOf_list_dec
  refine ss_rng ds.length (fun i r => ∃ x, r = [some (.lst ds), some (.lst ds), x]) (by array_get_dec; rfl) (by omega) ⟨none, rfl⟩ ?_ ?_
  · rintro i r hi ⟨x, rfl⟩
    show Ss (Lp_l_same_1 (F_l_same n) [some (.lst ds), some (.lst ds), some (.int (i : Int))]) _ _ _ _ _
    unfold Lp_l_same_1
    array_get_dec
    refine rs_ixL (atI_nat (List.getElem?_eq_getElem hi)) ?_
    array_get_dec
    refine rs_ixL (atI_nat (List.getElem?_eq_getElem hi)) ?_
    array_get_dec
    refine Rs.of (h _ (List.getElem_mem hi)) ?_
    sizeOf_list_dec
    exact ⟨_, rfl⟩
  · rintro r ⟨x, rfl⟩
    array_get_dec
    rfl)
theorem same_tup (n : Nat) (ds : List D) (hl : ds.length ≤ 10000) (h : ∀ d ∈ ds, F_l_same n [d, d] = .ok (.bl true)) : F_l_same (n + 1) [.tup ds, .tup ds] = .ok (.bl true) := Rs.eq (by
  refine rs_run ?_
  unfold Fb_l_same
  sizeOf_list_dec
  refine ss_rng ds.length (fun i r => ∃ x, r = [some (.tup ds), some (.tup ds), x]) (by array_get_dec; rfl) (by omega) ⟨none, rfl⟩ ?_ ?_
  · rintro i r hi ⟨x, rfl⟩
    show Ss (Lp_l_same_1 (F_l_same n) [some (.tup ds), some (.tup ds), some (.int (i : Int))]) _ _ _ _ _
    unfold Lp_l_same_1
    array_get_dec
    refine rs_ixT (atI_nat (List.getElem?_eq_getElem hi)) ?_
    array_get_dec
    refine rs_ixT (atI_nat (List.getElem?_eq_getElem hi)) ?_
    array_get_dec
    refine Rs.of (h _ (List.getElem_mem hi)) ?_
    sizeOf_list_dec
    exact ⟨_, rfl⟩
  · rintro r ⟨x, rfl⟩
    array_get_dec
    rfl)
end
section
structure Pc where
  w : Int
  k : Nat
  tw : Int
  ns : List Int
  cs : List Int
deriving DecidableEq, Inhabited
structure Bk where
  h : Int
  ind : Int
  bef : Int
  kp : Bool
  ps : List Pc
deriving DecidableEq, Inhabited
def sBl : List Nat := [98, 108, 97, 110, 107]
def sJo : List Nat := [106, 111, 105, 110, 116]
def sEn : List Nat := [101, 110, 100]
def tieS (p : Pc) : List Nat := if p.k = 0 then sBl else if p.k = 1 then sJo else sEn
def tieL (p : Pc) : List D := if p.k = 2 then [.str (Sg (tieS p))] else [.str (Sg (tieS p)), .int p.tw]
def iT (ns : List Int) : D := .tup (ns.map D.int)
def pcD (p : Pc) : D := .tup [.int p.w, .tup (tieL p), iT p.ns, iT p.cs]
def bkD (b : Bk) : D := .tup [.int b.h, .int b.ind, .int b.bef, .bl b.kp, .tup (b.ps.map pcD)]
abbrev bL (bs : List Bk) : D := .lst (bs.map bkD)
structure PcOk (p : Pc) : Prop where
  w : 1 ≤ p.w ∧ p.w ≤ 2000
  k : p.k ≤ 2
  t : 0 ≤ p.tw ∧ p.tw ≤ 2000
  n : ∀ h ∈ p.ns, 1 ≤ h ∧ h ≤ 2000
  nl : p.ns.length ≤ 4
  c : ∀ h ∈ p.cs, 1 ≤ h ∧ h ≤ 2000
structure BkOk (b : Bk) : Prop where
  h : 1 ≤ b.h ∧ b.h ≤ 2000
  i : 0 ≤ b.ind ∧ b.ind ≤ 2000
  f : 0 ≤ b.bef ∧ b.bef ≤ 2000
  p : ∀ p ∈ b.ps, PcOk p
  e : ∃ qs q, b.ps = qs ++ [q] ∧ q.k = 2 ∧ ∀ x ∈ qs, x.k < 2
def pieces (bs : List Bk) : List Pc := bs.flatMap (·.ps)
def figs (bs : List Bk) : List Int := (pieces bs).flatMap (·.cs)
structure WOk (bs : List Bk) : Prop where
  b : ∀ b ∈ bs, BkOk b
  p : (pieces bs).length ≤ 40
  f : (figs bs).length ≤ 4
theorem pieces_app (xs ys : List Bk) : pieces (xs ++ ys) = pieces xs ++ pieces ys := List.flatMap_append
theorem figs_app (xs ys : List Bk) : figs (xs ++ ys) = figs xs ++ figs ys := by unfold figs; rw [pieces_app, List.flatMap_append]
theorem WOk.len {bs : List Bk} (h : WOk bs) : bs.length ≤ 40 := by
  have : ∀ xs : List Bk, (∀ b ∈ xs, BkOk b) → xs.length ≤ (pieces xs).length := fun xs => by
    induction xs with
    | nil => intro _; simp
    | cons b xs ih =>
      intro hb
      have h1 := ih fun z hz => hb z (List.mem_cons_of_mem _ hz)
      obtain ⟨qs, q, e, _⟩ := (hb b List.mem_cons_self).e
      have : 1 ≤ b.ps.length := by rw [e]; simp
      unfold pieces at h1 ⊢
      rw [List.flatMap_cons, List.length_append, List.length_cons]
      omega
  exact Nat.le_trans (this bs h.b) h.p
theorem WOk.sub {xs ys zs : List Bk} (h : WOk (xs ++ ys ++ zs)) : WOk ys := by
  have h1 := h.p
  have h2 := h.f
  rw [pieces_app, pieces_app, List.length_append, List.length_append] at h1
  rw [figs_app, figs_app, List.length_append, List.length_append] at h2
  exact ⟨fun b hb => h.b b (by simp [hb]), by omega, by omega⟩
theorem WOk.take {bs : List Bk} (h : WOk bs) (n : Nat) : WOk (bs.take n) := WOk.sub (xs := []) (zs := bs.drop n) (by rw [List.nil_append, List.take_append_drop]; exact h)
theorem WOk.drop {bs : List Bk} (h : WOk bs) (n : Nat) : WOk (bs.drop n) := WOk.sub (xs := bs.take n) (zs := []) (by rw [List.append_nil, List.take_append_drop]; exact h)
def flA : Nat → Nat → List Bk → List (Pc × Nat × Nat × Nat)
  | _, _, [] => []
  | a, s, b :: bs => b.ps.map (fun p => (p, a, s, s + b.ps.length)) ++ flA (a + 1) (s + b.ps.length) bs
abbrev flL (bs : List Bk) : List (Pc × Nat × Nat × Nat) := flA 0 0 bs
def spnD (t : Pc × Nat × Nat × Nat) : D := .tup [.int (t.2.1 : Int), .int (t.2.2.1 : Int), .int (t.2.2.2 : Int)]
theorem flA_1 : ∀ (bs : List Bk) (a s : Nat), (flA a s bs).map (·.1) = pieces bs
  | [], _, _ => rfl
  | b :: bs, a, s => by
    rw [flA, List.map_append, flA_1 bs]
    unfold pieces
    rw [List.flatMap_cons, List.map_map]
    congr 1
    exact List.map_id' _
theorem flA_len (bs : List Bk) (a s : Nat) : (flA a s bs).length = (pieces bs).length := by rw [← flA_1 bs a s, List.length_map]
theorem flA_app : ∀ (xs ys : List Bk) (a s : Nat), flA a s (xs ++ ys) = flA a s xs ++ flA (a + xs.length) (s + (pieces xs).length) ys
  | [], ys, a, s => rfl
  | x :: xs, ys, a, s => by
    rw [List.cons_append, flA, flA_app xs ys, flA, List.append_assoc, List.length_cons]
    unfold pieces
    rw [List.flatMap_cons, List.length_append, show a + 1 + xs.length = a + (xs.length + 1) from by omega, Nat.add_assoc]
theorem flL_snoc (xs : List Bk) (b : Bk) : flL (xs ++ [b]) = flL xs ++ b.ps.map fun p => (p, xs.length, (pieces xs).length, (pieces xs).length + b.ps.length) := by
  rw [flL, flA_app, flA, flA, List.append_nil, Nat.zero_add, Nat.zero_add]
/-- what is known of the piece i -/
structure At (bs : List Bk) (i : Nat) (p : Pc) (a s e : Nat) (b : Bk) : Prop where
  d : ∃ xs ys, bs = xs ++ b :: ys ∧ a = xs.length ∧ s = (pieces xs).length
  lo : s ≤ i
  hi : i < e
  e : e = s + b.ps.length
  q : b.ps[i - s]? = some p
section
variable {bs : List Bk} {i : Nat} {p : Pc} {a s e : Nat} {b : Bk}
theorem pieces_cons (b : Bk) (ys : List Bk) : pieces (b :: ys) = b.ps ++ pieces ys := List.flatMap_cons
theorem At.ff (h : At bs i p a s e b) : (flL bs)[i]? = some (p, a, s, e) := by
  obtain ⟨xs, ys, rfl, rfl, rfl⟩ := h.d
  have h1 := h.lo
  have h2 := h.hi
  have h3 := h.e
  rw [flL, flA_app, flA, List.getElem?_append_right (by rw [flA_len]; exact h1), flA_len, List.getElem?_append_left (by rw [List.length_map]; omega), List.getElem?_map, h.q, Nat.zero_add, Nat.zero_add, h3]
  rfl
theorem At.le (h : At bs i p a s e b) : e ≤ (pieces bs).length := by
  have h3 := h.e
  obtain ⟨xs, ys, rfl, rfl, rfl⟩ := h.d
  rw [pieces_app, pieces_cons, List.length_append, List.length_append]
  omega
theorem at_ex {bs : List Bk} {i : Nat} (h : i < (pieces bs).length) : ∃ p a s e b, At bs i p a s e b := by
  have key : ∀ ys xs : List Bk, (pieces xs).length ≤ i → i < (pieces (xs ++ ys)).length → ∃ p a s e b, At (xs ++ ys) i p a s e b := fun ys => by
    induction ys with
    | nil => intro xs h1 h2; rw [List.append_nil] at h2; omega
    | cons b ys ih =>
      intro xs h1 h2
      by_cases c : i < (pieces xs).length + b.ps.length
      · exact ⟨_, _, _, _, b, ⟨xs, ys, rfl, rfl, rfl⟩, h1, c, rfl, List.getElem?_eq_getElem (by omega)⟩
      · have e1 : xs ++ b :: ys = xs ++ [b] ++ ys := by simp
        rw [e1] at h2 ⊢
        refine ih (xs ++ [b]) ?_ h2
        rw [pieces_app, pieces_cons, List.length_append, List.length_append]
        simp only [pieces, List.flatMap_nil, List.length_nil] at c ⊢
        omega
  exact key bs [] (by simp [pieces]) h
end
end
section
def galD (bs : List Bk) : D := .obj "Galley" ["blocks", "spans", "all_pieces", "all_figures"] [bL bs, .lst ((flL bs).map spnD), .lst ((pieces bs).map pcD), iL (figs bs)]
theorem lc_id {α : Type} (g : α → D) (n : Nat) (r : Rho) (xs : List α) (h : n < r.length) : lcLoop (tgN n) dYes (dVar n) r (xs.map g) = .ok (xs.map g) := lc_mapX g g xs fun x _ => ⟨r.set n (some (g x)), rfl, rfl, by
  unfold dVar
  rw [List.getElem?_set_self h]
  rfl⟩
theorem rs_ixc {ds : List D} (k : Nat) {d : D} {Q : D → Prop} {E : Str → List Str → List D → Prop} (h : ds[k]? = some d) (q : Q d) : Rs (ixD (.tup ds) (.int (k : Int))) Q E := rs_ixT (atI_nat h) q
/-- a list of blocks, or the empty tuple -/
def BdOk (bs : List Bk) (bd : D) : Prop := bd = bL bs ∨ (bs = [] ∧ bd = .kt [])
theorem rs_itBd {bs : List Bk} {bd : D} (h : BdOk bs bd) {Q : List D → Prop} {E : Str → List Str → List D → Prop} (q : Q (bs.map bkD)) : Rs (itemsX bd) Q E := by
  rcases h with rfl | ⟨rfl, rfl⟩ <;> exact q
theorem rs_enBd {bs : List Bk} {bd : D} (h : BdOk bs bd) {Q : List D → Prop} {E : Str → List Str → List D → Prop} (q : Q (numd 0 (bs.map bkD))) : Rs (enumX bd) Q E := by
  rcases h with rfl | ⟨rfl, rfl⟩ <;> exact q
theorem rs_liBd {bs : List Bk} {bd : D} (h : BdOk bs bd) {Q : D → Prop} {E : Str → List Str → List D → Prop} (q : Q (bL bs)) : Rs (g1 listD [bd]) Q E := by
  rcases h with rfl | ⟨rfl, rfl⟩ <;> exact q
theorem pcs_eq (bs : List Bk) {bd : D} (hbd : BdOk bs bd) (hl : (pieces bs).length ≤ 1000) : F_pieces_in [bd] = .ok (.lst ((pieces bs).map pcD)) := Rs.eq (by
  refine rs_run ?_
  unfold Fb_pieces_in
  array_get_dec
  have e : (pieces bs).map pcD = bs.flatMap fun b => b.ps.map pcD := by unfold pieces; rw [List.map_flatMap]
  rw [e]
  refine rs_lc2 bkD (fun b => b.ps.map pcD) bs ?_ ?_ ?_ rfl
  · exact rs_it (rs_var rfl (rs_itBd hbd rfl))
  · intro b _
    refine ⟨_, rfl, ?_⟩
    array_get_dec
    refine rs_ixc (ds := [.int b.h, .int b.ind, .int b.bef, .bl b.kp, .tup (b.ps.map pcD)]) 4 rfl ?_
    array_get_dec
    exact lc_id pcD 2 _ _ (by simp [wipeR, startR])
  · rw [← e, List.length_map]
    exact Nat.le_trans (by omega) sz5)
theorem figs_eq (bs : List Bk) {bd : D} (hbd : BdOk bs bd) (hl : (pieces bs).length ≤ 1000) (hf : (figs bs).length ≤ 1000) : F_figures_in [bd] = .ok (iL (figs bs)) := Rs.eq (by
  refine rs_run ?_
  unfold Fb_figures_in
  array_get_dec
  have e : (figs bs).map D.int = (pieces bs).flatMap fun p => p.cs.map D.int := by unfold figs; rw [List.map_flatMap]
  rw [iL, e]
  refine rs_lc2 pcD (fun p => p.cs.map D.int) (pieces bs) ?_ ?_ ?_ rfl
  · array_get_dec
    exact Rs.of (pcs_eq bs hbd hl) (rs_itsL rfl)
  · intro p _
    refine ⟨_, rfl, ?_⟩
    array_get_dec
    refine rs_ixc (ds := [.int p.w, .tup (tieL p), iT p.ns, iT p.cs]) 3 rfl ?_
    unfold iT
    array_get_dec
    exact lc_id D.int 2 _ _ (by simp [wipeR, startR])
  · rw [← e, List.length_map]
    exact Nat.le_trans (by omega) sz5)
theorem flat_rep {α : Type} (n : Nat) (x : α) : (List.replicate n [x]).flatten = List.replicate n x := by
  induction n with
  | zero => rfl
  | succ n ih => rw [List.replicate_succ, List.flatten_cons, ih]; rfl
theorem numd_inv : ∀ (ds : List D) (n i : Nat) (e : D), (numd n ds)[i]? = some e → ∃ d, ds[i]? = some d ∧ e = .tup [.int ((n + i : Nat) : Int), d]
  | [], n, i, e, h => by simp [numd] at h
  | d :: ds, n, 0, e, h => ⟨d, rfl, by simpa [numd] using h.symm⟩
  | d :: ds, n, i + 1, e, h => by
    obtain ⟨x, h1, h2⟩ := numd_inv ds (n + 1) i e (by simpa [numd] using h)
    exact ⟨x, by simpa using h1, by rw [h2, show n + 1 + i = n + (i + 1) from by omega]⟩
theorem pieces_take_le (bs : List Bk) (n : Nat) : (pieces (bs.take n)).length ≤ (pieces bs).length := by
  conv => rhs; rw [← List.take_append_drop n bs]
  rw [pieces_app, List.length_append]
  omega
theorem spans_eq (bs : List Bk) {bd : D} (hbd : BdOk bs bd) (hl : (pieces bs).length ≤ 1000) (hb : bs.length ≤ 1000) : F_spans_in [bd] = .ok (.lst ((flL bs).map spnD)) := Rs.eq (by
  refine rs_run ?_
  unfold Fb_spans_in
  array_get_dec
  refine ss_for (fun i r => ∃ x2 x3 x4 x5, r = [some bd, some (.lst ((flL (bs.take i)).map spnD)), x2, x3, x4, x5]) ?_
  refine rs_it (rs_var rfl (rs_enBd hbd ?_))
  refine ⟨⟨none, none, none, none, rfl⟩, ?_, ?_⟩
  · rintro i d r hd ⟨x2, x3, x4, x5, rfl⟩
    obtain ⟨d, hd2, rfl⟩ := numd_inv _ _ _ _ hd
    rw [List.getElem?_map, Option.map_eq_some_iff] at hd2
    obtain ⟨b, hb, rfl⟩ := hd2
    have hlen : i < bs.length := (List.getElem?_eq_some_iff.mp hb).1
    have ht : (bs.take i).length = i := by rw [List.length_take]; omega
    have h1 := pieces_take_le bs (i + 1)
    rw [take_snoc hb, pieces_app, pieces_cons, List.length_append, List.length_append] at h1
    refine ⟨_, rfl, ?_⟩
    unfold Lp_spans_in_1
    refine ss_seq (ss_cut (fun z => z = [some bd, some (.lst ((flL (bs.take i)).map spnD)), some (.int (i : Int)), some (bkD b), some (.int ((pieces (bs.take i)).length : Int)), x5]) ?_ ?_)
    · array_get_dec
      rw [List.length_map, flA_len, Nat.zero_add]
      rfl
    rintro _ rfl
    refine ss_seq (ss_cut (fun z => z = [some bd, some (.lst ((flL (bs.take i)).map spnD)), some (.int (i : Int)), some (bkD b), some (.int ((pieces (bs.take i)).length : Int)), some (.int (((pieces (bs.take i)).length + b.ps.length : Nat) : Int))]) ?_ ?_)
    · array_get_dec
      refine rs_ixc (ds := [.int b.h, .int b.ind, .int b.bef, .bl b.kp, .tup (b.ps.map pcD)]) 4 rfl ?_
      array_get_dec
      rw [List.length_map]
      rfl
    rintro _ rfl
    refine ss_ext rfl ?_
    array_get_dec
    refine rs_ixc (ds := [.int b.h, .int b.ind, .int b.bef, .bl b.kp, .tup (b.ps.map pcD)]) 4 rfl ?_
    array_get_dec
    rw [List.length_map]
    refine rs_mulL ⟨by omega, by omega, ?_⟩ ?_
    · simp only [List.length_cons, List.length_nil, Int.toNat_natCast]
      exact Nat.le_trans (by omega) sz5
    rw [Int.toNat_natCast, flat_rep]
    refine rs_asL (And.intro ?_ ?_)
    · rw [List.length_map, flA_len, List.length_replicate]
      exact Nat.le_trans (by omega) sz5
    · rw [take_snoc hb, flL_snoc, List.map_append, List.map_map, ht]
      have e : (b.ps.map (spnD ∘ fun p => (p, i, (pieces (bs.take i)).length, (pieces (bs.take i)).length + b.ps.length))) = List.replicate b.ps.length (.tup [.int (i : Int), .int ((pieces (bs.take i)).length : Int), .int (((pieces (bs.take i)).length + b.ps.length : Nat) : Int)]) := by
        rw [← List.map_const']; rfl
      rw [e]
      exact ⟨_, _, _, _, rfl⟩
  · rintro r ⟨x2, x3, x4, x5, rfl⟩
    rw [numd_len, List.length_map, List.take_length]
    array_get_dec
    rfl)
theorem ginitX (bs : List Bk) {bd : D} (hbd : BdOk bs bd) (h : WOk bs) : F_Galley_init [bd] = .ok (galD bs) := Rs.eq (by
  have h1 := h.p
  have h2 := h.f
  refine rs_runI ?_
  unfold Fb_Galley_init
  refine ss_seq (ss_cut (fun z => z = [some (.obj "Galley" [] []), some bd, some (.lst ((pieces bs).map pcD)), some (iL (figs bs))]) ?_ ?_)
  · array_get_dec
    refine Rs.of (pcs_eq bs hbd (by omega)) ?_
    array_get_dec
    refine Rs.of (figs_eq bs hbd (by omega) (by omega)) ?_
    rfl
  rintro _ rfl
  refine ss_seq (ss_cut (fun z => z = [some (.obj "Galley" [] []), some bd, some (.lst ((pieces bs).map pcD)), some (iL (figs bs))]) ?_ ?_)
  · array_get_dec
    refine ⟨fun z => ?_, fun _ => rfl⟩
    have := of_decide_eq_true z
    rw [List.length_map] at this
    omega
  rintro _ rfl
  refine ss_seq (ss_cut (fun z => z = [some (.obj "Galley" [] []), some bd, some (.lst ((pieces bs).map pcD)), some (iL (figs bs))]) ?_ ?_)
  · array_get_dec
    refine ⟨fun z => ?_, fun _ => rfl⟩
    have := of_decide_eq_true z
    rw [List.length_map] at this
    omega
  rintro _ rfl
  refine ss_seq (ss_fst (ns := []) (vs := []) ?_)
  refine rs_call (rs_cons (rs_var rfl (rs_nil (rs_liBd hbd ?_))))
  refine ⟨rfl, by decide, ?_⟩
  refine ss_seq (ss_fst (ns := ["blocks"]) (vs := [bL bs]) ?_)
  array_get_dec
  refine Rs.of (spans_eq bs hbd (by omega) (Nat.le_trans h.len (by omega))) ⟨rfl, by decide, ?_⟩
  refine ss_seq (ss_fst (ns := ["blocks", "spans"]) (vs := [bL bs, .lst ((flL bs).map spnD)]) ?_)
  array_get_dec
  refine ⟨rfl, by decide, ?_⟩
  refine ss_fst (ns := ["blocks", "spans", "all_pieces"]) (vs := [bL bs, .lst ((flL bs).map spnD), .lst ((pieces bs).map pcD)]) ?_
  array_get_dec
  exact ⟨rfl, by decide, _, rfl, rfl⟩)
theorem ginit (bs : List Bk) (h : WOk bs) : F_Galley_init [bL bs] = .ok (galD bs) := ginitX bs (.inl rfl) h
theorem ginit0 : F_Galley_init [.kt []] = .ok (galD []) := ginitX [] (.inr ⟨rfl, rfl⟩) ⟨fun b hb => (by cases hb), (by simp [pieces]), (by simp [figs, pieces])⟩
theorem glen (bs : List Bk) : F_Galley_len [galD bs] = .ok (.int ((pieces bs).length : Int)) := Rs.eq (by
  refine rs_run ?_
  unfold Fb_Galley_len
  array_get_dec
  refine rs_fld (d := .lst ((pieces bs).map pcD)) rfl ?_
  array_get_dec
  rw [List.length_map])
theorem gpcs (bs : List Bk) : F_Galley_pieces [galD bs] = .ok (.lst ((pieces bs).map pcD)) := Rs.eq (by
  refine rs_runT ?_
  unfold Fb_Galley_pieces
  array_get_dec
  refine rs_fld (d := .lst ((pieces bs).map pcD)) rfl ?_
  array_get_dec
  rfl)
theorem gblk {bs : List Bk} {i : Nat} {p : Pc} {a s e : Nat} {b : Bk} (h : At bs i p a s e b) : F_Galley_block_at [galD bs, .int (i : Int)] = .ok (spnD (p, a, s, e)) := Rs.eq (by
  refine rs_run ?_
  unfold Fb_Galley_block_at
  refine ss_seq (ss_cut (fun z => z = [some (galD bs), some (.int (i : Int))]) ?_ ?_)
  · array_get_dec
    refine rs_fld (d := .lst ((flL bs).map spnD)) rfl ?_
    array_get_dec
    refine ⟨fun z => ?_, fun _ => rfl⟩
    have h1 := h.hi
    have h2 := h.le
    rw [List.length_map, flA_len] at z
    exfalso
    have e1 : decide (0 ≤ (i : Int)) = true := decide_eq_true (by omega)
    have e2 : decide ((i : Int) < ((pieces bs).length : Int)) = true := decide_eq_true (by omega)
    rw [e1, e2] at z
    simp at z
  rintro _ rfl
  array_get_dec
  refine rs_fld (d := .lst ((flL bs).map spnD)) rfl ?_
  array_get_dec
  exact rs_ixL (atI_nat (by rw [List.getElem?_map, h.ff]; rfl)) rfl)
end
section
section
variable {N B C : Rho → Prop} {R : D → Prop} {E : Rho → Str → List Str → List D → Prop} {r : Rho}
theorem ss_pop {i : Nat} {t : D → Rho → Res Rho} {ds : List D} {d : D} (h1 : r[i]? = some (some (.lst (ds ++ [d])))) (h : ∃ r', t d (r.set i (some (.lst ds))) = .ok r' ∧ N r') : Ss (popF i t r) N R B C E := by
  unfold popF
  refine ss_lift (Rs.of (a := ds ++ [d]) (by unfold ownL; rw [h1]) ?_)
  have e : (ds ++ [d])[(ds ++ [d]).length - 1]? = some d := by simp
  rw [e]
  dsimp only
  obtain ⟨r', h2, h3⟩ := h
  rw [List.dropLast_concat, h2]
  exact h3
theorem ss_eachT {α : Type} {m : Nat} {f : Rho → Res D} {F : Rho → SR} (g : α → D) (xs : List α) (I : Nat → Rho → Prop) (h : Rs (f r) (fun d => d = .tup (xs.map g)) (E r)) (h0 : I 0 r) (hs : ∀ i x r, xs[i]? = some x → I i r → Ss (F (r.set m (some (g x)))) (I (i + 1)) R N (I (i + 1)) E) (he : ∀ r, I xs.length r → N r) : Ss (forF (dIt itemsT f) (tgN m) F r) N R B C E :=
  ss_for I (rs_it (h.impE (fun d q => by
    subst q
    refine rs_itsT ⟨h0, fun i d r h1 h2 => ?_, fun r h => he r (by rw [List.length_map] at h; exact h)⟩
    rw [List.getElem?_map] at h1
    cases hx : xs[i]? with
    | none => rw [hx] at h1; cases h1
    | some x => rw [hx] at h1; cases h1; exact ⟨_, rfl, hs i x r hx h2⟩) fun _ _ _ z => z))
end
theorem at6 (a0 a1 a2 a3 a4 a5 : Nat) (m : Int) (h : 0 ≤ m ∧ m ≤ 5) (hb : ∀ x ∈ [a0, a1, a2, a3, a4, a5], x ≤ 4) : ∃ n : Nat, n ≤ 4 ∧ atI [D.int (a0 : Int), .int (a1 : Int), .int (a2 : Int), .int (a3 : Int), .int (a4 : Int), .int (a5 : Int)] m = some (.int (n : Int)) := by
  have : m = 0 ∨ m = 1 ∨ m = 2 ∨ m = 3 ∨ m = 4 ∨ m = 5 := by omega
  rcases this with rfl | rfl | rfl | rfl | rfl | rfl
  · exact ⟨a0, hb _ (by simp), rfl⟩
  · exact ⟨a1, hb _ (by simp), rfl⟩
  · exact ⟨a2, hb _ (by simp), rfl⟩
  · exact ⟨a3, hb _ (by simp), rfl⟩
  · exact ⟨a4, hb _ (by simp), rfl⟩
  · exact ⟨a5, hb _ (by simp), rfl⟩
theorem cut4 (a b c d : Int) (n : Nat) : cutL [D.int a, .int b, .int c, .int d] none (some (n : Int)) = ([a, b, c, d].take n).map D.int := by
  rw [cut_take, List.map_take]
  rfl
theorem mpiece (v0 v1 v2 v3 v4 v5 v6 wide tall : Int) (last : Bool) (left : Nat) (hw : 1 ≤ wide ∧ wide ≤ 2000) (ht : 1 ≤ tall ∧ tall ≤ 2000) (h0 : 0 ≤ v0 ∧ v0 < wide) (h1 : 0 ≤ v1 ∧ v1 < 3) (h2 : 0 ≤ v2 ∧ v2 < wide + 1) (h3 : 0 ≤ v3 ∧ v3 < 16) (h4 : 0 ≤ v4 ∧ v4 < tall) (h5 : 0 ≤ v5 ∧ v5 < 12) (h6 : 0 ≤ v6 ∧ v6 < tall) :
    Rs (F_l_made_piece [iL [v0, v1, v2, v3, v4, v5, v6], .bl last, .int (left : Int), .int tall]) (fun d => ∃ p, d = pcD p ∧ PcOk p ∧ (p.k = 2 ↔ last = true) ∧ p.cs.length ≤ left) nE := by
  refine rs_run ?_
  unfold Fb_l_made_piece
  show Ss (seqF _ _ [some (iL [v0, v1, v2, v3, v4, v5, v6]), some (.bl last), some (.int (left : Int)), some (.int tall), none, none, none]) _ _ _ _ _
  refine ss_seq (ss_cut (fun z => z = [some (iL [v0, v1, v2, v3, v4, v5, v6]), some (.bl last), some (.int (left : Int)), some (.int tall), some (.tup [.str (Sg sBl), .int v2]), none, none]) ?_ ?_)
  · array_get_dec
    rfl
  rintro _ rfl
  refine ss_seq (ss_cut (fun z => ∃ k tw, z = [some (iL [v0, v1, v2, v3, v4, v5, v6]), some (.bl last), some (.int (left : Int)), some (.int tall), some (.tup (tieL ⟨v0 + 1, k, tw, [], []⟩)), none, none] ∧ k ≤ 2 ∧ (k = 2 ↔ last = true) ∧ 0 ≤ tw ∧ tw ≤ 2000) ?_ ?_)
  · array_get_dec
    refine ⟨fun z => ?_, fun z => ?_⟩
    · array_get_dec
      exact ⟨2, 0, rfl, by omega, by simp [z], by omega, by omega⟩
    · array_get_dec
      refine ⟨fun _ => ?_, fun _ => ?_⟩
      · array_get_dec
        exact ⟨1, v2, rfl, by omega, by simp [z], by omega, by omega⟩
      · exact ⟨0, v2, rfl, by omega, by simp [z], by omega, by omega⟩
  rintro _ ⟨k, tw, rfl, g1, g2, g3⟩
  have ti : ∀ (ns cs : List Int), tieL ⟨v0 + 1, k, tw, ns, cs⟩ = tieL ⟨v0 + 1, k, tw, [], []⟩ := fun _ _ => rfl
  generalize hT : tieL ⟨v0 + 1, k, tw, [], []⟩ = T at ti
  obtain ⟨n3, b3, e3⟩ := at6 2 1 3 4 1 0 (min2 v3 5) (by unfold min2; omega) (by decide)
  obtain ⟨n5, b5, e5⟩ := at6 1 2 4 3 1 0 (min2 v5 5) (by unfold min2; omega) (by decide)
  have tk : ∀ (x : Int) (n : Nat), 0 ≤ x ∧ x < tall → ∀ h ∈ ([x + 1, tall - x, 1, tall].take n), 1 ≤ h ∧ h ≤ 2000 := fun x n hx h hh => by
    have := List.mem_of_mem_take hh
    simp only [List.mem_cons, List.not_mem_nil, or_false] at this
    omega
  refine ss_seq (ss_cut (fun z => z = [some (iL [v0, v1, v2, v3, v4, v5, v6]), some (.bl last), some (.int (left : Int)), some (.int tall), some (.tup T), some (iT ([v4 + 1, tall - v4, 1, tall].take n3)), none]) ?_ ?_)
  · array_get_dec
    rw [cut4]
    rfl
  rintro _ rfl
  refine ss_seq (ss_cut (fun z => z = [some (iL [v0, v1, v2, v3, v4, v5, v6]), some (.bl last), some (.int (left : Int)), some (.int tall), some (.tup T), some (iT ([v4 + 1, tall - v4, 1, tall].take n3)), some (iT ([v6 + 1, tall - v6, 1, tall].take (min left n5)))]) ?_ ?_)
  · array_get_dec
    rw [show min2 (left : Int) (n5 : Int) = ((min left n5 : Nat) : Int) from by unfold min2; omega, cut4]
    rfl
  rintro _ rfl
  array_get_dec
  refine ⟨⟨v0 + 1, k, tw, [v4 + 1, tall - v4, 1, tall].take n3, [v6 + 1, tall - v6, 1, tall].take (min left n5)⟩, ?_, ⟨by dsimp only; omega, g1, g3, tk v4 n3 h4, ?_, tk v6 _ h6⟩, g2, ?_⟩
  · unfold pcD
    rw [ti]
  · rw [List.length_take]; simp only [List.length_cons, List.length_nil]; omega
  · rw [List.length_take]; omega
def LIM (wide tall : Int) : List Int := [tall, wide + 1, tall + 1, 6, 2] ++ (List.replicate 6 [wide, 3, wide + 1, 16, tall, 12, tall]).flatten
theorem fit_drop : ∀ (n : Nat) {vs ls : List Int}, Fit vs ls → Fit (vs.drop n) (ls.drop n)
  | 0, _, _, h => h
  | n + 1, [], [], _ => trivial
  | n + 1, v :: vs, l :: ls, h => fit_drop n h.2.2
  | n + 1, [], _ :: _, h => h.elim
  | n + 1, _ :: _, [], h => h.elim
theorem fit_take : ∀ (n : Nat) {vs ls : List Int}, Fit vs ls → Fit (vs.take n) (ls.take n)
  | 0, _, _, _ => trivial
  | n + 1, [], [], _ => trivial
  | n + 1, v :: vs, l :: ls, h => ⟨h.1, h.2.1, fit_take n h.2.2⟩
  | n + 1, [], _ :: _, h => h.elim
  | n + 1, _ :: _, [], h => h.elim
theorem fit7 {wide tall : Int} {vs : List Int} (h : Fit vs (LIM wide tall)) {k : Nat} (hk : k < 6) : Fit ((vs.take (7 * k + 12)).drop (7 * k + 5)) [wide, 3, wide + 1, 16, tall, 12, tall] := by
  have h1 := fit_drop (7 * k + 5) (fit_take (7 * k + 12) h)
  have : ((LIM wide tall).take (7 * k + 12)).drop (7 * k + 5) = [wide, 3, wide + 1, 16, tall, 12, tall] := by
    have : k = 0 ∨ k = 1 ∨ k = 2 ∨ k = 3 ∨ k = 4 ∨ k = 5 := by omega
    rcases this with rfl | rfl | rfl | rfl | rfl | rfl <;> rfl
  rw [this] at h1
  exact h1
theorem lim_pos {wide tall : Int} (hw : 1 ≤ wide ∧ wide ≤ 2000) (ht : 1 ≤ tall ∧ tall ≤ 2000) : ∀ l ∈ LIM wide tall, 0 < l ∧ l < 4611686018427387904 := by
  intro l hl
  unfold LIM at hl
  simp only [List.replicate, List.flatten_cons, List.flatten_nil, List.append_nil, List.cons_append, List.nil_append, List.mem_cons, List.not_mem_nil, or_false] at hl
  omega
end
section
theorem rep_snoc {α : Type} (n : Nat) (x : α) : List.replicate (n + 1) x = List.replicate n x ++ [x] := by
  rw [← List.replicate_append_replicate (n := n) (m := 1)]; rfl
/-- what is known of the blocks made so far -/
structure Mk (many cap : Nat) (bs : List Bk) (left : Nat) : Prop where
  b : ∀ b ∈ bs, BkOk b
  p : (pieces bs).length ≤ many
  f : left + (figs bs).length = cap
theorem figs_one (b : Bk) : figs [b] = b.ps.flatMap (·.cs) := by unfold figs; rw [pieces_cons]; simp [pieces]
theorem blocks_sp (cs : List Int) (many cap : Nat) (wide tall : Int) (hc : 0 < cs.length ∧ cs.length ≤ 1000) (hm : many ≤ 1000) (hw : 1 ≤ wide ∧ wide ≤ 2000) (ht : 1 ≤ tall ∧ tall ≤ 2000) :
    Rs (F_l_made_blocks [iL cs, .int (many : Int), .int (cap : Int), .int wide, .int tall]) (fun d => ∃ bs left, d = bL bs ∧ Mk many cap bs left) nE := by
  refine rs_run ?_
  unfold Fb_l_made_blocks
  show Ss (seqF _ _ [some (iL cs), some (.int (many : Int)), some (.int (cap : Int)), some (.int wide), some (.int tall), none, none, none, none, none, none, none, none, none, none, none]) _ _ _ _ _
  refine ss_seq (ss_cut (fun z => z = [some (iL cs), some (.int (many : Int)), some (.int (cap : Int)), some (.int wide), some (.int tall), some (iL [tall, wide + 1, tall + 1, 6, 2]), none, none, none, none, none, none, none, none, none, none]) ?_ ?_)
  · array_get_dec
    rfl
  rintro _ rfl
  refine ss_seq (ss_cut (fun z => ∃ x6, z = [some (iL cs), some (.int (many : Int)), some (.int (cap : Int)), some (.int wide), some (.int tall), some (iL (LIM wide tall)), x6, none, none, none, none, none, none, none, none, none]) ?_ ?_)
  · refine ss_rng 6 (fun i z => ∃ x6, z = [some (iL cs), some (.int (many : Int)), some (.int (cap : Int)), some (.int wide), some (.int tall), some (iL ([tall, wide + 1, tall + 1, 6, 2] ++ (List.replicate i [wide, 3, wide + 1, 16, tall, 12, tall]).flatten)), x6, none, none, none, none, none, none, none, none, none]) ?_ (by omega) ?_ ?_ ?_
    · array_get_dec
      rfl
    · exact ⟨none, rfl⟩
    · rintro i z hi ⟨x6, rfl⟩
      unfold Lp_l_made_blocks_1
      array_get_dec
      refine rs_addLL ?_ ?_
      · refine Nat.le_trans (m := 100000) ?_ sz5
        have : ((List.replicate i [wide, 3, wide + 1, 16, tall, 12, tall]).flatten).length = i * 7 := by rw [List.length_flatten, List.map_replicate, List.sum_replicate_nat]; rfl
        rw [List.length_map, List.length_append, this]
        simp only [List.length_cons, List.length_nil]
        omega
      · refine ⟨some (.int (i : Int)), ?_⟩
        rw [rep_snoc, List.flatten_append, ← List.append_assoc, show [D.int wide, .int 3, .int (wide + 1), .int 16, .int tall, .int 12, .int tall] = [wide, 3, wide + 1, 16, tall, 12, tall].map D.int from rfl, ← List.map_append]
        simp only [List.flatten_cons, List.flatten_nil, List.append_nil]
        rfl
    · rintro z ⟨x6, rfl⟩
      exact ⟨x6, rfl⟩
  rintro _ ⟨x6, rfl⟩
  refine ss_seq (ss_cut (fun z => z = [some (iL cs), some (.int (many : Int)), some (.int (cap : Int)), some (.int wide), some (.int tall), some (iL (LIM wide tall)), x6, some (bL []), some (.int ((pieces []).length : Nat)), some (.int (cap : Int)), none, none, none, none, none, none]) ?_ ?_)
  · array_get_dec
    rfl
  rintro _ rfl
  array_get_dec
  refine ss_rng many (fun i z => ∃ (bs : List Bk) (left : Nat) (x6 x10 x11 x12 x13 x14 x15 : Option D), z = [some (iL cs), some (.int (many : Int)), some (.int (cap : Int)), some (.int wide), some (.int tall), some (iL (LIM wide tall)), x6, some (bL bs), some (.int ((pieces bs).length : Nat)), some (.int ((left : Nat) : Int)), x10, x11, x12, x13, x14, x15] ∧ Mk many cap bs left) ?_ (by omega) ?_ ?_ ?_
  · array_get_dec
    rfl
  · exact ⟨[], cap, _, _, _, _, _, _, _, rfl, fun b hb => by simp at hb, by simp [pieces], by simp [figs, pieces]⟩
  · rintro i z hi ⟨bs, left, y6, x10, x11, x12, x13, x14, x15, rfl, hk⟩
    unfold Lp_l_made_blocks_3
    show Ss (ifF _ _ _ [some (iL cs), some (.int (many : Int)), some (.int (cap : Int)), some (.int wide), some (.int tall), some (iL (LIM wide tall)), y6, some (bL bs), some (.int ((pieces bs).length : Nat)), some (.int ((left : Nat) : Int)), some (.int (i : Int)), x11, x12, x13, x14, x15]) _ _ _ _ _
    array_get_dec
    refine ⟨fun z => ?_, fun _ => ⟨bs, left, _, _, _, _, _, _, _, rfl, hk⟩⟩
    have hlt := of_decide_eq_true z
    have hlt : (pieces bs).length < many := by omega
    obtain ⟨c, hc1⟩ : ∃ c, cs[i % cs.length]? = some c := ⟨_, List.getElem?_eq_getElem (Nat.mod_lt _ hc.1)⟩
    refine ss_seq (ss_cut (fun z => z = [some (iL cs), some (.int (many : Int)), some (.int (cap : Int)), some (.int wide), some (.int tall), some (iL (LIM wide tall)), y6, some (bL bs), some (.int ((pieces bs).length : Nat)), some (.int ((left : Nat) : Int)), some (.int (i : Int)), some (.int c), x12, x13, x14, x15]) ?_ ?_)
    · array_get_dec
      rw [List.length_map]
      refine rs_mod (by omega) ?_
      refine rs_ixL (d := .int c) ?_ rfl
      rw [← Int.natCast_emod]
      exact atI_nat (by rw [List.getElem?_map, hc1]; rfl)
    rintro _ rfl
    refine ss_seq (ss_cut (fun z => ∃ vs, z = [some (iL cs), some (.int (many : Int)), some (.int (cap : Int)), some (.int wide), some (.int tall), some (iL (LIM wide tall)), y6, some (bL bs), some (.int ((pieces bs).length : Nat)), some (.int ((left : Nat) : Int)), some (.int (i : Int)), some (.int c), some (iL vs), x13, x14, x15] ∧ Fit vs (LIM wide tall)) ?_ ?_)
    · array_get_dec
      rw [List.length_map]
      refine rs_fdiv (by omega) ?_
      array_get_dec
      refine row_of _ (LIM wide tall) (lim_pos hw ht) (show 47 < 10000 by decide) fun vs hf => ?_
      exact ⟨vs, rfl, hf⟩
    rintro _ ⟨vs, rfl, hf⟩
    obtain ⟨r0, r1, r2, r3, r4, ws, rfl, f0, f1, f2, f3, f4⟩ : ∃ r0 r1 r2 r3 r4 ws, vs = r0 :: r1 :: r2 :: r3 :: r4 :: ws ∧ (0 ≤ r0 ∧ r0 < tall) ∧ (0 ≤ r1 ∧ r1 < wide + 1) ∧ (0 ≤ r2 ∧ r2 < tall + 1) ∧ (0 ≤ r3 ∧ r3 < 6) ∧ (0 ≤ r4 ∧ r4 < 2) := by
      unfold LIM at hf
      obtain ⟨v0, _, rfl, a0, b0, hf⟩ := hf.cons
      obtain ⟨v1, _, rfl, a1, b1, hf⟩ := hf.cons
      obtain ⟨v2, _, rfl, a2, b2, hf⟩ := hf.cons
      obtain ⟨v3, _, rfl, a3, b3, hf⟩ := hf.cons
      obtain ⟨v4, us, rfl, a4, b4, hf⟩ := hf.cons
      exact ⟨v0, v1, v2, v3, v4, us, rfl, ⟨a0, b0⟩, ⟨a1, b1⟩, ⟨a2, b2⟩, ⟨a3, b3⟩, ⟨a4, b4⟩⟩
    generalize hvs : r0 :: r1 :: r2 :: r3 :: r4 :: ws = vs at hf
    have i0 : atI (vs.map D.int) 0 = some (.int r0) := by subst hvs; exact atI_nat (j := 0) rfl
    have i1 : atI (vs.map D.int) 1 = some (.int r1) := by subst hvs; exact atI_nat (j := 1) rfl
    have i2 : atI (vs.map D.int) 2 = some (.int r2) := by subst hvs; exact atI_nat (j := 2) rfl
    have i3 : atI (vs.map D.int) 3 = some (.int r3) := by subst hvs; exact atI_nat (j := 3) rfl
    have i4 : atI (vs.map D.int) 4 = some (.int r4) := by subst hvs; exact atI_nat (j := 4) rfl
    clear hvs
    obtain ⟨size, hs, hs1, hs2⟩ : ∃ size : Nat, min2 (r3 + 1) ((many : Int) - ((pieces bs).length : Int)) = (size : Int) ∧ (1 ≤ size ∧ size ≤ 6) ∧ (pieces bs).length + size ≤ many := ⟨(min2 (r3 + 1) ((many : Int) - ((pieces bs).length : Int))).toNat, by unfold min2; omega, by unfold min2; omega, by unfold min2; omega⟩
    refine ss_seq (ss_cut (fun z => z = [some (iL cs), some (.int (many : Int)), some (.int (cap : Int)), some (.int wide), some (.int tall), some (iL (LIM wide tall)), y6, some (bL bs), some (.int ((pieces bs).length : Nat)), some (.int ((left : Nat) : Int)), some (.int (i : Int)), some (.int c), some (iL vs), some (.int (size : Int)), x14, x15]) ?_ ?_)
    · array_get_dec
      rw [hs]
      rfl
    rintro _ rfl
    refine ss_seq (ss_cut (fun z => z = [some (iL cs), some (.int (many : Int)), some (.int (cap : Int)), some (.int wide), some (.int tall), some (iL (LIM wide tall)), y6, some (bL bs), some (.int ((pieces bs).length : Nat)), some (.int ((left : Nat) : Int)), some (.int (i : Int)), some (.int c), some (iL vs), some (.int (size : Int)), some (.lst []), x15]) ?_ ?_)
    · array_get_dec
      rfl
    rintro _ rfl
    refine ss_seq (ss_cut (fun z => ∃ (ps : List Pc) (lf : Nat) (z6 z15 : Option D), z = [some (iL cs), some (.int (many : Int)), some (.int (cap : Int)), some (.int wide), some (.int tall), some (iL (LIM wide tall)), z6, some (bL bs), some (.int ((pieces bs).length : Nat)), some (.int ((lf : Nat) : Int)), some (.int (i : Int)), some (.int c), some (iL vs), some (.int (size : Int)), some (.lst (ps.map pcD)), z15] ∧ ps.length = size ∧ (∀ j p, ps[j]? = some p → PcOk p ∧ (p.k = 2 ↔ j + 1 = size)) ∧ lf + (ps.flatMap (·.cs)).length = left) ?_ ?_)
    · refine ss_rng size (fun k z => ∃ (ps : List Pc) (lf : Nat) (z6 z15 : Option D), z = [some (iL cs), some (.int (many : Int)), some (.int (cap : Int)), some (.int wide), some (.int tall), some (iL (LIM wide tall)), z6, some (bL bs), some (.int ((pieces bs).length : Nat)), some (.int ((lf : Nat) : Int)), some (.int (i : Int)), some (.int c), some (iL vs), some (.int (size : Int)), some (.lst (ps.map pcD)), z15] ∧ ps.length = k ∧ (∀ j p, ps[j]? = some p → PcOk p ∧ (p.k = 2 ↔ j + 1 = size)) ∧ lf + (ps.flatMap (·.cs)).length = left) ?_ (by omega) ?_ ?_ ?_
      · array_get_dec
        rfl
      · exact ⟨[], left, _, _, rfl, rfl, fun j p h => by simp at h, by simp⟩
      · rintro k z hk ⟨ps, lf, z6, z15, rfl, q1, q2, q3⟩
        have h7 := fit7 hf (show k < 6 by omega)
        generalize hg : (vs.take (7 * k + 12)).drop (7 * k + 5) = us at h7
        obtain ⟨v0, _, rfl, a0, b0, h7⟩ := h7.cons
        obtain ⟨v1, _, rfl, a1, b1, h7⟩ := h7.cons
        obtain ⟨v2, _, rfl, a2, b2, h7⟩ := h7.cons
        obtain ⟨v3, _, rfl, a3, b3, h7⟩ := h7.cons
        obtain ⟨v4, _, rfl, a4, b4, h7⟩ := h7.cons
        obtain ⟨v5, _, rfl, a5, b5, h7⟩ := h7.cons
        obtain ⟨v6, _, rfl, a6, b6, h7⟩ := h7.cons
        cases h7.nil
        unfold Lp_l_made_blocks_2
        show Ss (seqF _ _ [some (iL cs), some (.int (many : Int)), some (.int (cap : Int)), some (.int wide), some (.int tall), some (iL (LIM wide tall)), some (.int (k : Int)), some (bL bs), some (.int ((pieces bs).length : Nat)), some (.int ((lf : Nat) : Int)), some (.int (i : Int)), some (.int c), some (iL vs), some (.int (size : Int)), some (.lst (ps.map pcD)), z15]) _ _ _ _ _
        refine ss_seq (ss_cut (fun z => ∃ p, z = [some (iL cs), some (.int (many : Int)), some (.int (cap : Int)), some (.int wide), some (.int tall), some (iL (LIM wide tall)), some (.int (k : Int)), some (bL bs), some (.int ((pieces bs).length : Nat)), some (.int ((lf : Nat) : Int)), some (.int (i : Int)), some (.int c), some (iL vs), some (.int (size : Int)), some (.lst (ps.map pcD)), some (pcD p)] ∧ PcOk p ∧ (p.k = 2 ↔ k + 1 = size) ∧ p.cs.length ≤ lf) ?_ ?_)
        · array_get_dec
          rw [show (7 * (k : Int) + 5) = ((7 * k + 5 : Nat) : Int) from by omega, show (7 * (k : Int) + 12) = ((7 * k + 12 : Nat) : Int) from by omega, cut_mid, ← List.map_take, ← List.map_drop, hg]
          array_get_dec
          refine (mpiece v0 v1 v2 v3 v4 v5 v6 wide tall (decide ((k : Int) = (size : Int) - 1)) lf hw ht ⟨a0, b0⟩ ⟨a1, b1⟩ ⟨a2, b2⟩ ⟨a3, b3⟩ ⟨a4, b4⟩ ⟨a5, b5⟩ ⟨a6, b6⟩).imp ?_
          rintro d ⟨p, rfl, p1, p2, p3⟩
          refine ⟨p, rfl, p1, ?_, p3⟩
          rw [p2, decide_eq_true_iff]
          omega
        rintro _ ⟨p, rfl, p1, p2, p3⟩
        refine ss_seq (ss_cut (fun z => z = [some (iL cs), some (.int (many : Int)), some (.int (cap : Int)), some (.int wide), some (.int tall), some (iL (LIM wide tall)), some (.int (k : Int)), some (bL bs), some (.int ((pieces bs).length : Nat)), some (.int ((lf - p.cs.length : Nat) : Int)), some (.int (i : Int)), some (.int c), some (iL vs), some (.int (size : Int)), some (.lst (ps.map pcD)), some (pcD p)]) ?_ ?_)
        · array_get_dec
          refine rs_ixc (ds := [.int p.w, .tup (tieL p), iT p.ns, iT p.cs]) 3 rfl ?_
          unfold iT
          array_get_dec
          rw [List.length_map, show (lf : Int) - (p.cs.length : Int) = ((lf - p.cs.length : Nat) : Int) from by omega]
          rfl
        rintro _ rfl
        array_get_dec
        refine ⟨ps ++ [p], lf - p.cs.length, _, _, by rw [List.map_append]; rfl, by rw [List.length_append, q1]; rfl, ?_, ?_⟩
        · intro j x hx
          by_cases hj : j < ps.length
          · rw [List.getElem?_append_left hj] at hx
            exact q2 j x hx
          · rw [List.getElem?_append_right (by omega)] at hx
            have : j - ps.length = 0 := by
              have := (List.getElem?_eq_some_iff.mp hx).1
              simp at this
              omega
            rw [this] at hx
            simp at hx
            subst hx
            exact ⟨p1, by rw [p2]; omega⟩
        · rw [List.flatMap_append, List.length_append]
          simp only [List.flatMap_cons, List.flatMap_nil, List.append_nil]
          omega
      · rintro z ⟨ps, lf, z6, z15, rfl, q⟩
        exact ⟨ps, lf, z6, z15, rfl, q⟩
    rintro _ ⟨ps, lf, z6, z15, rfl, q1, q2, q3⟩
    have hbk : BkOk ⟨r0 + 1, r1, r2, decide (r4 = 1), ps⟩ := by
      refine ⟨by dsimp only; omega, by dsimp only; omega, by dsimp only; omega, fun p hp => ?_, ?_⟩
      · obtain ⟨j, hj⟩ := List.getElem?_of_mem hp
        exact (q2 j p hj).1
      · have hne : ps ≠ [] := fun z => by rw [z] at q1; simp at q1; omega
        refine ⟨ps.dropLast, ps.getLast hne, (List.dropLast_concat_getLast hne).symm, ?_, fun x hx => ?_⟩
        · refine ((q2 (ps.length - 1) _ ?_).2).mpr (by omega)
          rw [List.getElem?_eq_getElem (by omega), List.getLast_eq_getElem]
        · obtain ⟨j, hj⟩ := List.getElem?_of_mem hx
          have hj1 := (List.getElem?_eq_some_iff.mp hj).1
          rw [List.length_dropLast] at hj1
          rw [List.dropLast_eq_take, List.getElem?_take_of_lt (by omega)] at hj
          have h1 := q2 j x hj
          have h2 := h1.1.k
          have : x.k ≠ 2 := fun z => by have := h1.2.mp z; omega
          omega
    refine ss_seq (ss_cut (fun z => z = [some (iL cs), some (.int (many : Int)), some (.int (cap : Int)), some (.int wide), some (.int tall), some (iL (LIM wide tall)), z6, some (bL (bs ++ [⟨r0 + 1, r1, r2, decide (r4 = 1), ps⟩])), some (.int ((pieces bs).length : Nat)), some (.int ((lf : Nat) : Int)), some (.int (i : Int)), some (.int c), some (iL vs), some (.int (size : Int)), some (.lst (ps.map pcD)), z15]) ?_ ?_)
    · array_get_dec
      refine ⟨?_, ?_⟩
      · refine Nat.lt_of_lt_of_le (m := 100000) ?_ sz5
        rw [List.length_map]
        have : bs.length ≤ (pieces bs).length := by
          have : ∀ xs : List Bk, (∀ b ∈ xs, BkOk b) → xs.length ≤ (pieces xs).length := fun xs => by
            induction xs with
            | nil => intro _; simp
            | cons b xs ih =>
              intro hb
              have h1 := ih fun z hz => hb z (List.mem_cons_of_mem _ hz)
              obtain ⟨qs, q, e, _⟩ := (hb b List.mem_cons_self).e
              have : 1 ≤ b.ps.length := by rw [e]; simp
              rw [pieces_cons, List.length_append, List.length_cons]
              omega
          exact this bs hk.b
        omega
      · rw [show bL (bs ++ [⟨r0 + 1, r1, r2, decide (r4 = 1), ps⟩]) = .lst (bs.map bkD ++ [bkD ⟨r0 + 1, r1, r2, decide (r4 = 1), ps⟩]) from by rw [bL, List.map_append]; rfl]
        rfl
    rintro _ rfl
    array_get_dec
    refine ⟨bs ++ [⟨r0 + 1, r1, r2, decide (r4 = 1), ps⟩], lf, z6, some (.int (i : Int)), some (.int c), some (iL vs), some (.int (size : Int)), some (.lst (ps.map pcD)), z15, ?_, ?_, ?_, ?_⟩
    · rw [show ((pieces bs).length : Int) + (size : Int) = ((pieces (bs ++ [⟨r0 + 1, r1, r2, decide (r4 = 1), ps⟩])).length : Int) from by
        rw [pieces_app, pieces_cons, List.length_append, List.length_append]
        simp only [pieces, List.flatMap_nil, List.length_nil]
        omega]
      rfl
    · intro b hb
      rcases List.mem_append.mp hb with hb | hb
      · exact hk.b b hb
      · simp only [List.mem_cons, List.not_mem_nil, or_false] at hb
        subst hb
        exact hbk
    · rw [pieces_app, pieces_cons, List.length_append, List.length_append]
      simp only [pieces, List.flatMap_nil, List.length_nil] at hs2 ⊢
      omega
    · rw [figs_app, figs_one, List.length_append]
      have := hk.f
      dsimp only
      omega
  · rintro z ⟨bs, left, y6, x10, x11, x12, x13, x14, x15, rfl, hk⟩
    array_get_dec
    exact ⟨bs, left, rfl, hk⟩
end
section
structure Cd {α : Type} [DecidableEq α] (P : α → Prop) (f : α → D) (n : Nat) (py : α → PyData) : Prop where
  e : ∀ a, P a → toPy (f a) = some (py a)
  l : ∀ a, P a → PyData.canLay0 (py a) = true ∧ PyData.depth (py a) ≤ n
  q : ∀ a b, P a → P b → PyData.eqv (py a) (py b) = decide (a = b)
section
variable {α β γ δ ε : Type} [DecidableEq α] [DecidableEq β] [DecidableEq γ] [DecidableEq δ] [DecidableEq ε] {P : α → Prop} {R : β → Prop} {T : γ → Prop} {U : δ → Prop} {f : α → D} {g : β → D} {h : γ → D} {k : δ → D} {n : Nat} {py : α → PyData} {pz : β → PyData} {pw : γ → PyData} {px : δ → PyData}
theorem Cd.all (c : Cd P f n py) : ∀ xs : List α, (∀ x ∈ xs, P x) → toPyL (xs.map f) = some (xs.map py) ∧ PyData.canLayAll0 (xs.map py) = true ∧ PyData.depthAll (xs.map py) ≤ n
  | [], _ => ⟨by simp [toPyL], by simp [PyData.canLayAll0], by simp [PyData.depthAll]⟩
  | x :: xs, hx => by
    obtain ⟨h1, h2, h3⟩ := c.all xs fun y hy => hx y (List.mem_cons_of_mem _ hy)
    have hp := hx x List.mem_cons_self
    refine ⟨by rw [List.map_cons, toPyL, h1, c.e x hp]; rfl, ?_, ?_⟩
    · rw [List.map_cons, PyData.canLayAll0, h2, (c.l x hp).1]; rfl
    · rw [List.map_cons, PyData.depthAll]
      exact Nat.max_le.mpr ⟨(c.l x hp).2, h3⟩
theorem Cd.up {m : Nat} (c : Cd P f n py) (hm : n ≤ m) : Cd P f m py := ⟨c.e, fun a ha => ⟨(c.l a ha).1, Nat.le_trans (c.l a ha).2 hm⟩, c.q⟩
end
end
section
def PlD (n : Nat) (d : D) : Prop := ∃ p, toPy d = some p ∧ PyData.canLay0 p = true ∧ PyData.depth p ≤ n
theorem pl_all {n : Nat} : ∀ {ds : List D}, (∀ d ∈ ds, PlD n d) → ∃ ps, toPyL ds = some ps ∧ PyData.canLayAll0 ps = true ∧ PyData.depthAll ps ≤ n
  | [], _ => ⟨[], by simp [toPyL], by simp [PyData.canLayAll0], by simp [PyData.depthAll]⟩
  | d :: ds, h => by
    obtain ⟨p, h1, h2, h3⟩ := h d List.mem_cons_self
    obtain ⟨ps, h4, h5, h6⟩ := pl_all fun x hx => h x (List.mem_cons_of_mem _ hx)
    refine ⟨p :: ps, by rw [toPyL, h1, h4], ?_, ?_⟩
    · rw [PyData.canLayAll0, h2, h5]; rfl
    · rw [PyData.depthAll]; exact Nat.max_le.mpr ⟨h3, h6⟩
theorem pl_tup {n : Nat} {ds : List D} (h : ∀ d ∈ ds, PlD n d) : PlD (n + 1) (.tup ds) := by
  obtain ⟨ps, h1, h2, h3⟩ := pl_all h
  exact ⟨.tuple ps, by rw [toPy, h1]; rfl, by rw [PyData.canLay0]; exact h2, by rw [PyData.depth]; exact Nat.succ_le_succ h3⟩
theorem pl_lst {n : Nat} {ds : List D} (h : ∀ d ∈ ds, PlD n d) : PlD (n + 1) (.lst ds) := by
  obtain ⟨ps, h1, h2, h3⟩ := pl_all h
  exact ⟨.list ps, by rw [toPy, h1]; rfl, by rw [PyData.canLay0]; exact h2, by rw [PyData.depth]; exact Nat.succ_le_succ h3⟩
theorem pl_int (n : Nat) (i : Int) : PlD n (.int i) := ⟨.int i, by simp [toPy], by simp [PyData.canLay0], by simp [PyData.depth]⟩
theorem pl_bl (n : Nat) (b : Bool) : PlD n (.bl b) := ⟨.bool b, by simp [toPy], by simp [PyData.canLay0], by simp [PyData.depth]⟩
theorem pl_str (n : Nat) {s : Str} (h : PyData.strOk s = true) : PlD n (.str s) := ⟨.str s, by simp [toPy], by simp [PyData.canLay0, h], by simp [PyData.depth]⟩
theorem pl_ints (n : Nat) (ns : List Int) : PlD (n + 1) (iT ns) := pl_tup fun d hd => by
  obtain ⟨i, _, rfl⟩ := List.mem_map.mp hd
  exact pl_int n i
theorem pl_pc (p : Pc) : PlD 2 (pcD p) := pl_tup fun d hd => by
  simp only [List.mem_cons, List.not_mem_nil, or_false] at hd
  rcases hd with rfl | rfl | rfl | rfl
  · exact pl_int 1 _
  · refine pl_tup fun d hd => ?_
    have hs : PlD 0 (.str (Sg (tieS p))) := by
      refine pl_str 0 ?_
      unfold tieS
      split
      · decide +kernel
      · split <;> decide +kernel
    unfold tieL at hd
    split at hd
    · rw [List.mem_singleton.mp hd]; exact hs
    · simp only [List.mem_cons, List.not_mem_nil, or_false] at hd
      rcases hd with rfl | rfl
      · exact hs
      · exact pl_int 0 _
  · exact pl_ints 0 _
  · exact pl_ints 0 _
theorem pl_bk (b : Bk) : PlD 4 (bkD b) := pl_tup fun d hd => by
  simp only [List.mem_cons, List.not_mem_nil, or_false] at hd
  rcases hd with rfl | rfl | rfl | rfl | rfl
  · exact pl_int 3 _
  · exact pl_int 3 _
  · exact pl_int 3 _
  · exact pl_bl 3 _
  · refine pl_tup fun d hd => ?_
    obtain ⟨p, _, rfl⟩ := List.mem_map.mp hd
    exact pl_pc p
theorem pl_bL (bs : List Bk) : PlD 5 (bL bs) := pl_lst fun d hd => by
  obtain ⟨b, _, rfl⟩ := List.mem_map.mp hd
  exact pl_bk b
theorem eqB_refl {n : Nat} {d : D} (h : PlD n d) (hn : n ≤ 64) (hf : eqFlat d d = none) : eqB d d = .ok true := by
  obtain ⟨p, h1, h2, h3⟩ := h
  have sh : SeqAt.shaped p = true := by
    unfold SeqAt.shaped
    rw [h2, decide_eq_true (by omega)]
    rfl
  unfold eqB
  rw [hf]
  dsimp only
  unfold eqDeep
  rw [h1]
  dsimp only
  rw [if_pos ⟨sh, sh⟩, SeqAt.eqv_refl p h2]
end
section
section
variable {N B C : Rho → Prop} {R : D → Prop} {E : Rho → Str → List Str → List D → Prop} {r : Rho} {Q : Bool × Rho → Prop} {X : Str → List Str → List D → Prop}
theorem rs_bindM {α β : Type} {x : Res α} {f : α → Res β} {Q : β → Prop} (h : Rs x (fun a => Rs (f a) Q X) X) : Rs (x.bind f) Q X := by
  cases x <;> exact h
theorem rs_pureM {t : Rho → Res Bool} (h : Rs (t r) (fun k => Q (k, r)) X) : Rs (pureM t r) Q X := rs_bindM h
theorem rs_notM {t : Rho → Res (Bool × Rho)} (h : Rs (t r) (fun x => Q (!x.1, x.2)) X) : Rs (notM t r) Q X := rs_bindM h
theorem rs_orM {t u : Rho → Res (Bool × Rho)} (h : Rs (t r) (fun x => x.1 = false ∧ Rs (u x.2) Q X) X) : Rs (orM t u r) Q X := rs_bindM (h.impE (fun x q => by
  rw [if_neg (by rw [q.1]; exact Bool.false_ne_true)]; exact q.2) fun _ _ _ z => z)
theorem ss_ifM {t : Rho → Res (Bool × Rho)} {F K : Rho → SR} (h : Rs (t r) (fun x => x.1 = false ∧ Ss (K x.2) N R B C E) nE) : Ss (ifM t F K r) N R B C E := by
  unfold ifM
  cases e : t r with
  | ok x =>
    rw [e] at h
    show Ss (if x.1 = true then F x.2 else K x.2) N R B C E
    rw [if_neg (by rw [h.1]; exact Bool.false_ne_true)]
    exact h.2
  | err _ _ _ => rw [e] at h; exact h.elim
  | bad => rw [e] at h; exact h.elim
theorem rs_callMJ {i j : Nat} {F : List D → Res (D × D)} {f2 : Rho → Res D} {d d1 d2 d' : D} {k : Bool} (h1 : r[i]? = some (some d)) (h2 : r[j]? = some (some d1)) (h3 : Rs (f2 r) (fun b => b = d2) nE) (h4 : F [d, d1, d2] = .ok (.bl k, d')) (q : Q (k, r.set i (some d'))) : Rs (callMJ i j F f2 r) Q X := by
  unfold callMJ
  rw [h1, h2]
  dsimp only
  rw [Rs.eq h3]
  show Rs ((F [d, d1, d2]).bind _) Q X
  rw [h4]
  exact q
theorem rs_callMO {i : Nat} {F : List D → Res (D × D)} {f1 f2 : Rho → Res D} {d d1 d2 d' : D} {k : Bool} (h1 : r[i]? = some (some d)) (h2 : Rs (f1 r) (fun b => b = d1) nE) (h3 : Rs (f2 r) (fun b => b = d2) nE) (h4 : F [d, d1, d2] = .ok (.bl k, d')) (q : Q (k, r.set i (some d'))) : Rs (callMO i F f1 f2 r) Q X := by
  unfold callMO
  rw [h1]
  dsimp only
  rw [Rs.eq h2]
  show Rs ((f2 r).bind _) Q X
  rw [Rs.eq h3]
  show Rs ((F [d, d1, d2]).bind _) Q X
  rw [h4]
  exact q
theorem runM_ok {n : Nat} {Cn : Str} {isM : Str → Option Bool} {Fi : List D → Res D} {Fs : Rho → SR} {f2 : Rho → Res D} {d d1 d2 d' v : D} (hd : isC Cn d = true) (hF : Fi [d, d1] = .ok d') (h2 : Rs (f2 ((startR n []).set 2 (some d2))) (fun b => b = v) nE) : runM n Cn isM Fi Fs f2 [d, d1, d2] = .ok (v, d') := by
  unfold runM
  dsimp only
  rw [if_neg (by rw [hd]; decide), hF]
  dsimp only
  rw [Rs.eq h2]
  rfl
theorem runM_err {n : Nat} {Cn nm : Str} {ns : List Str} {vs : List D} {isM : Str → Option Bool} {Fi : List D → Res D} {Fs : Rho → SR} {f2 : Rho → Res D} {d d1 d2 v : D} (hd : isC Cn d = true) (hF : Fi [d, d1] = .err nm ns vs) (hM : isM nm = some true) (h2 : Ss (Fs (((startR n []).set 2 (some d2)).set 3 (some (.obj nm ns vs)))) nR (fun b => b = v) nR nR (fun _ => nE)) : runM n Cn isM Fi Fs f2 [d, d1, d2] = .ok (v, d) := by
  unfold runM
  dsimp only
  rw [if_neg (by rw [hd]; decide), hF]
  dsimp only
  rw [if_pos hM]
  cases e : Fs (((startR n []).set 2 (some d2)).set 3 (some (.obj nm ns vs))) with
  | rt b => rw [e] at h2; rw [show b = v from h2]
  | _ => rw [e] at h2; exact h2.elim
theorem rs_runIo {n : Nat} {f1 : Rho → Res D} {Fa Fb : Rho → SR} {d d1 : D} {Q : D → Prop} (h : Rs (f1 (startR n [d, d1])) (fun dj => Ss (Fa ((startR n [d]).set 2 (some dj))) (fun r2 => Ss (Fb r2) (fun r3 => ∃ d', r3[0]? = some (some d') ∧ Q d') (fun _ => False) nR nR (fun _ => nE)) (fun _ => False) nR nR (fun _ => nE)) X) : Rs (runIo n f1 Fa Fb [d, d1]) Q X := by
  unfold runIo
  dsimp only
  refine rs_bindM (h.impE (fun dj q => ?_) fun _ _ _ z => z)
  cases e : Fa ((startR n [d]).set 2 (some dj)) with
  | nx r2 =>
    rw [e] at q
    dsimp only
    have q : Ss (Fb r2) (fun r3 => ∃ d', r3[0]? = some (some d') ∧ Q d') (fun _ => False) nR nR (fun _ => nE) := q
    cases e2 : Fb r2 with
    | nx r3 =>
      rw [e2] at q
      obtain ⟨d', h1, h2⟩ := q
      dsimp only
      rw [h1]
      exact h2
    | _ => rw [e2] at q; exact q.elim
  | _ => rw [e] at q; exact q.elim
end
structure GB (bs : List Bk) : Prop where
  b : ∀ b ∈ bs, BkOk b
  p : (pieces bs).length ≤ 200
  f : (figs bs).length ≤ 900
def dueN (bs : List Bk) : Nat := if 40 < (pieces bs).length then (pieces bs).length else if 4 < (figs bs).length then (figs bs).length else 0
theorem GB.len {bs : List Bk} (h : GB bs) : bs.length ≤ 200 := by
  have : ∀ xs : List Bk, (∀ b ∈ xs, BkOk b) → xs.length ≤ (pieces xs).length := fun xs => by
    induction xs with
    | nil => intro _; simp
    | cons b xs ih =>
      intro hb
      have h1 := ih fun z hz => hb z (List.mem_cons_of_mem _ hz)
      obtain ⟨qs, q, e, _⟩ := (hb b List.mem_cons_self).e
      have : 1 ≤ b.ps.length := by rw [e]; simp
      rw [pieces_cons, List.length_append, List.length_cons]
      omega
  exact Nat.le_trans (this bs h.b) h.p
theorem GB.wok {bs : List Bk} (h : GB bs) (hd : dueN bs = 0) : WOk bs := by
  unfold dueN at hd
  refine ⟨h.b, ?_, ?_⟩
  · split at hd <;> omega
  · split at hd
    · omega
    · split at hd <;> omega
theorem WOk.gb {bs : List Bk} (h : WOk bs) : GB bs := ⟨h.b, Nat.le_trans h.p (by decide), Nat.le_trans h.f (by decide)⟩
theorem WOk.app {xs ys : List Bk} (h1 : WOk xs) (h2 : WOk ys) : GB (xs ++ ys) := by
  have a := h1.p
  have b := h1.f
  have c := h2.p
  have d := h2.f
  refine ⟨fun z hz => (List.mem_append.mp hz).elim (h1.b z) (h2.b z), ?_, ?_⟩
  · rw [pieces_app, List.length_append]; omega
  · rw [figs_app, List.length_append]; omega
theorem due_sp (bs : List Bk) (h : GB bs) : F_l_due [bL bs] = .ok (.int (dueN bs : Int)) := Rs.eq (by
  have hl := h.len
  refine rs_run ?_
  unfold Fb_l_due
  show Ss (seqF _ _ [some (bL bs), none, none, none, none]) _ _ _ _ _
  refine ss_seq (ss_cut (fun z => z = [some (bL bs), some (.int ((pieces (bs.take 0)).length : Nat)), some (.int ((figs (bs.take 0)).length : Nat)), none, none]) ?_ ?_)
  · refine ss_asg ?_
    array_get_dec
    refine ⟨_, rfl, rfl⟩
  rintro _ rfl
  refine ss_seq (ss_cut (fun z => ∃ x3 x4, z = [some (bL bs), some (.int ((pieces bs).length : Nat)), some (.int ((figs bs).length : Nat)), x3, x4]) ?_ ?_)
  · refine ss_each bkD bs (fun i z => ∃ x3 x4, z = [some (bL bs), some (.int ((pieces (bs.take i)).length : Nat)), some (.int ((figs (bs.take i)).length : Nat)), x3, x4]) ?_ ⟨none, none, rfl⟩ ?_ ?_
    · array_get_dec
      rfl
    · rintro i b z hi ⟨x3, x4, rfl⟩
      show Ss (Lp_l_due_2 [some (bL bs), some (.int ((pieces (bs.take i)).length : Nat)), some (.int ((figs (bs.take i)).length : Nat)), some (bkD b), x4]) _ _ _ _ _
      unfold Lp_l_due_2
      refine ss_eachT pcD b.ps (fun j z => ∃ x4, z = [some (bL bs), some (.int (((pieces (bs.take i)).length + j : Nat) : Int)), some (.int (((figs (bs.take i)).length + ((b.ps.take j).flatMap (·.cs)).length : Nat) : Int)), some (bkD b), x4]) ?_ ⟨x4, rfl⟩ ?_ ?_
      · array_get_dec
        exact rs_ixc (ds := [.int b.h, .int b.ind, .int b.bef, .bl b.kp, .tup (b.ps.map pcD)]) 4 rfl rfl
      · rintro j p z hj ⟨x4, rfl⟩
        show Ss (Lp_l_due_1 [some (bL bs), some (.int (((pieces (bs.take i)).length + j : Nat) : Int)), some (.int (((figs (bs.take i)).length + ((b.ps.take j).flatMap (·.cs)).length : Nat) : Int)), some (bkD b), some (pcD p)]) _ _ _ _ _
        unfold Lp_l_due_1
        refine ss_seq (ss_cut (fun z => z = [some (bL bs), some (.int (((pieces (bs.take i)).length + (j + 1) : Nat) : Int)), some (.int (((figs (bs.take i)).length + ((b.ps.take j).flatMap (·.cs)).length : Nat) : Int)), some (bkD b), some (pcD p)]) ?_ ?_)
        · array_get_dec
          rw [show (((pieces (bs.take i)).length + j : Nat) : Int) + 1 = (((pieces (bs.take i)).length + (j + 1) : Nat) : Int) from by omega]
          rfl
        rintro _ rfl
        array_get_dec
        refine rs_ixc (ds := [.int p.w, .tup (tieL p), iT p.ns, iT p.cs]) 3 rfl ?_
        unfold iT
        array_get_dec
        rw [List.length_map, take_snoc hj, List.flatMap_append, List.length_append, List.flatMap_cons, List.flatMap_nil, List.append_nil, show (((figs (bs.take i)).length + ((b.ps.take j).flatMap (·.cs)).length : Nat) : Int) + (p.cs.length : Int) = (((figs (bs.take i)).length + (((b.ps.take j).flatMap (·.cs)).length + p.cs.length) : Nat) : Int) from by omega]
        exact ⟨_, rfl⟩
      · rintro z ⟨x4, rfl⟩
        rw [take_snoc hi, pieces_app, figs_app, figs_one, List.length_append, List.length_append, pieces_cons, List.take_length]
        refine ⟨some (bkD b), x4, ?_⟩
        simp only [pieces, List.flatMap_nil, List.append_nil]
    · rintro z ⟨x3, x4, rfl⟩
      rw [List.take_length]
      exact ⟨x3, x4, rfl⟩
  rintro _ ⟨x3, x4, rfl⟩
  have hd : dueN bs = if 40 < (pieces bs).length then (pieces bs).length else if 4 < (figs bs).length then (figs bs).length else 0 := rfl
  generalize hP : (pieces bs).length = P at hd ⊢
  generalize hF : (figs bs).length = F at hd ⊢
  array_get_dec
  refine ⟨fun c => ?_, fun c => ?_⟩
  · have c := of_decide_eq_true c
    array_get_dec
    rw [hd, if_pos (by omega)]
  · have c := of_decide_eq_false c
    array_get_dec
    refine ⟨fun c2 => ?_, fun c2 => ?_⟩
    · have c2 := of_decide_eq_true c2
      array_get_dec
      rw [hd, if_neg (by omega), if_pos (by omega)]
    · have c2 := of_decide_eq_false c2
      array_get_dec
      rw [hd, if_neg (by omega), if_neg (by omega)]
      rfl)
theorem ginitR (bs : List Bk) (h : GB bs) (hd : dueN bs ≠ 0) : F_Galley_init [bL bs] = .err "TooLarge" ["many"] [.int (dueN bs : Int)] := Rs.errEq (by
  have h1 := h.p
  have h2 := h.f
  refine rs_runI ?_
  unfold Fb_Galley_init
  refine ss_seq (ss_cut (fun z => z = [some (.obj "Galley" [] []), some (bL bs), some (.lst ((pieces bs).map pcD)), some (iL (figs bs))]) ?_ ?_)
  · array_get_dec
    refine Rs.of (pcs_eq bs (.inl rfl) (by omega)) ?_
    array_get_dec
    refine Rs.of (figs_eq bs (.inl rfl) (by omega) (by omega)) ?_
    rfl
  rintro _ rfl
  have hu : dueN bs = if 40 < (pieces bs).length then (pieces bs).length else if 4 < (figs bs).length then (figs bs).length else 0 := rfl
  by_cases c : 40 < (pieces bs).length
  · rw [if_pos c] at hu
    refine ss_seq (ss_if ?_)
    array_get_dec
    rw [List.length_map]
    refine ⟨fun _ => ss_raise ?_, fun z => absurd (of_decide_eq_false z) (by omega)⟩
    array_get_dec
    rw [List.length_map]
    refine ⟨rfl, rfl, rfl, ?_⟩
    rw [hu]
    rfl
  · rw [if_neg c] at hu
    by_cases c2 : 4 < (figs bs).length
    · rw [if_pos c2] at hu
      refine ss_seq (ss_cut (fun z => z = [some (.obj "Galley" [] []), some (bL bs), some (.lst ((pieces bs).map pcD)), some (iL (figs bs))]) ?_ ?_)
      · array_get_dec
        rw [List.length_map]
        exact ⟨fun z => absurd (of_decide_eq_true z) (by omega), fun _ => rfl⟩
      rintro _ rfl
      refine ss_seq (ss_if ?_)
      array_get_dec
      rw [List.length_map]
      refine ⟨fun _ => ss_raise ?_, fun z => absurd (of_decide_eq_false z) (by omega)⟩
      array_get_dec
      rw [List.length_map]
      refine ⟨rfl, rfl, rfl, ?_⟩
      rw [hu]
      rfl
    · rw [if_neg c2] at hu
      exact absurd hu hd)
end
section
theorem num_eq (i : Int) : F_l_number [.int i] = .ok (.bl true) := Rs.eq (by
  refine rs_run ?_
  unfold Fb_l_number
  array_get_dec
  rfl)
theorem gadd (xs ys : List Bk) (h : WOk (xs ++ ys)) : F_Galley_add [galD xs, galD ys] = .ok (galD (xs ++ ys)) := Rs.eq (by
  have hl := h.gb.len
  rw [List.length_append] at hl
  refine rs_run ?_
  unfold Fb_Galley_add
  array_get_dec
  refine rs_fld (d := bL xs) rfl ?_
  array_get_dec
  refine rs_fld (d := bL ys) rfl ?_
  refine rs_addLL (by rw [List.length_map, List.length_map]; exact Nat.le_trans (by omega) sz5) ?_
  array_get_dec
  rw [← List.map_append]
  exact Rs.of (ginit (xs ++ ys) h) rfl)
theorem gaddR (xs ys : List Bk) (h : GB (xs ++ ys)) (hd : dueN (xs ++ ys) ≠ 0) : F_Galley_add [galD xs, galD ys] = .err "TooLarge" ["many"] [.int (dueN (xs ++ ys) : Int)] := Rs.errEq (by
  have hl := h.len
  rw [List.length_append] at hl
  refine rs_run ?_
  unfold Fb_Galley_add
  array_get_dec
  refine rs_fld (d := bL xs) rfl ?_
  array_get_dec
  refine rs_fld (d := bL ys) rfl ?_
  refine rs_addLL (by rw [List.length_map, List.length_map]; exact Nat.le_trans (by omega) sz5) ?_
  array_get_dec
  rw [← List.map_append]
  exact Rs.ofE (ginitR (xs ++ ys) h hd) ⟨rfl, rfl, rfl⟩)
theorem giadd (xs ys : List Bk) (h : WOk (xs ++ ys)) : F_Galley_iadd [galD xs, galD ys] = .ok (galD (xs ++ ys)) := Rs.eq (by
  have hl := h.gb.len
  rw [List.length_append] at hl
  unfold F_Galley_iadd
  refine rs_runIo ?_
  show Rs (dCall _ _ [some (galD xs), some (galD ys), none]) _ _
  array_get_dec
  refine rs_fld (d := bL xs) rfl ?_
  array_get_dec
  refine rs_fld (d := bL ys) rfl ?_
  refine rs_addLL (by rw [List.length_map, List.length_map]; exact Nat.le_trans (by omega) sz5) ?_
  array_get_dec
  rw [← List.map_append]
  refine Rs.of (ginit (xs ++ ys) h) ?_
  show Ss (asgF _ _ [some (galD xs), none, some (galD (xs ++ ys))]) _ _ _ _ _
  refine ss_asg ?_
  array_get_dec
  refine rs_fld (d := bL (xs ++ ys)) rfl ?_
  array_get_dec
  refine rs_fld (d := .lst ((flL (xs ++ ys)).map spnD)) rfl ?_
  array_get_dec
  refine ⟨_, rfl, ?_⟩
  refine ss_asg ?_
  array_get_dec
  refine rs_fld (d := .lst ((pieces (xs ++ ys)).map pcD)) rfl ?_
  array_get_dec
  refine rs_fld (d := iL (figs (xs ++ ys))) rfl ?_
  array_get_dec
  refine ⟨_, rfl, ?_⟩
  exact ⟨galD (xs ++ ys), rfl, rfl⟩)
theorem giaddR (xs ys : List Bk) (h : GB (xs ++ ys)) (hd : dueN (xs ++ ys) ≠ 0) : F_Galley_iadd [galD xs, galD ys] = .err "TooLarge" ["many"] [.int (dueN (xs ++ ys) : Int)] := Rs.errEq (by
  have hl := h.len
  rw [List.length_append] at hl
  unfold F_Galley_iadd
  refine rs_runIo ?_
  show Rs (dCall _ _ [some (galD xs), some (galD ys), none]) _ _
  array_get_dec
  refine rs_fld (d := bL xs) rfl ?_
  array_get_dec
  refine rs_fld (d := bL ys) rfl ?_
  refine rs_addLL (by rw [List.length_map, List.length_map]; exact Nat.le_trans (by omega) sz5) ?_
  array_get_dec
  rw [← List.map_append]
  exact Rs.ofE (ginitR (xs ++ ys) h hd) ⟨rfl, rfl, rfl⟩)
theorem isG (xs : List Bk) : isC "Galley" (galD xs) = true := by
  unfold galD isC
  simp
theorem added_ok (xs ys : List Bk) (h : WOk (xs ++ ys)) : F_l_added [galD xs, galD ys, .int 0] = .ok (.bl true, galD (xs ++ ys)) := runM_ok (isG xs) (giadd xs ys h) (by
  show Rs (dOp _ _ _ [none, none, some (.int 0), none]) _ _
  array_get_dec
  rfl)
theorem added_no (xs ys : List Bk) (h : GB (xs ++ ys)) (hd : dueN (xs ++ ys) ≠ 0) : F_l_added [galD xs, galD ys, .int (dueN (xs ++ ys) : Int)] = .ok (.bl true, galD xs) := runM_err (isG xs) (giaddR xs ys h hd) rfl (by
  generalize dueN (xs ++ ys) = n at hd
  show Ss (retF _ [none, none, some (.int (n : Int)), some (.obj "TooLarge" ["many"] [.int (n : Int)])]) _ _ _ _ _
  refine ss_ret (rs_andV (rs_op (rs_var rfl (rs_c (rs_gt (rs_asB (rs_andV (rs_call (rs_cons (rs_xf (n := "TooLarge") (ns := ["many"]) (vs := [.int (n : Int)]) (d := .int (n : Int)) rfl rfl (rs_nil ?_)))))))))))
  refine Rs.of (num_eq n) (rs_asB (rs_op (rs_xf (n := "TooLarge") (ns := ["many"]) (vs := [.int (n : Int)]) (d := .int (n : Int)) rfl rfl (rs_var rfl (rs_eqI (rs_asB (rs_asB ?_)))))))
  rw [decide_eq_true (rfl : (n : Int) = n), decide_eq_true (show (n : Int) > 0 by omega)]
  rfl)
theorem blkR (bs : List Bk) {i : Int} (h : ¬ (0 ≤ i ∧ i < ((pieces bs).length : Int))) : F_Galley_block_at [galD bs, .int i] = .err "NoSuchNumber" ["number"] [.int i] := Rs.errEq (by
  refine rs_run ?_
  unfold Fb_Galley_block_at
  refine ss_seq (ss_if ?_)
  array_get_dec
  refine rs_fld (d := .lst ((flL bs).map spnD)) rfl ?_
  array_get_dec
  rw [List.length_map, flA_len]
  refine ⟨fun _ => ss_raise ?_, fun z => ?_⟩
  · array_get_dec
    exact ⟨rfl, rfl, rfl, rfl⟩
  · exfalso
    simp at z
    omega)
theorem no_piece (bs : List Bk) {i : Int} (h : ¬ (0 ≤ i ∧ i < ((pieces bs).length : Int))) : F_l_no_piece [galD bs, .int i] = .ok (.bl true) := Rs.eq (by
  refine rs_run ?_
  unfold Fb_l_no_piece
  show Ss (seqF _ _ [some (galD bs), some (.int i), none, none]) _ _ _ _ _
  refine ss_seq ?_
  refine ss_try (Ss.imp (N := fun z => False) (R := fun _ => False) (B := fun _ => False) (C := fun _ => False) (E := fun r nm ns vs => r = [some (galD bs), some (.int i), none, none] ∧ nm = "NoSuchNumber" ∧ ns = ([("number" : Str)] : List Str) ∧ vs = [.int i]) ?_ (fun _ z => z.elim) (fun _ z => z.elim) (fun _ z => z.elim) (fun _ z => z.elim) ?_)
  · refine ss_drop ?_
    refine rs_meth (rs_var rfl ?_)
    refine rs_isObj (ns := ["blocks", "spans", "all_pieces", "all_figures"]) (vs := [bL bs, .lst ((flL bs).map spnD), .lst ((pieces bs).map pcD), iL (figs bs)]) (by decide) ?_
    refine rs_cons (rs_var rfl (rs_nil ?_))
    exact Rs.ofE (blkR bs h) ⟨rfl, rfl, rfl, rfl⟩
  · rintro r nm fs vs ⟨rfl, rfl, rfl, rfl⟩
    refine ⟨rfl, ?_⟩
    refine ss_seq (ss_cut (fun z => z = [some (galD bs), some (.int i), some (.obj "NoSuchNumber" ["number"] [.int i]), some (.bl true)]) ?_ ?_)
    · refine ss_set (rs_andV (rs_isX (n := "NoSuchNumber") (ns := ["number"]) (vs := [.int i]) (b := true) rfl rfl (rs_asB (rs_notV (rs_isX (n := "NoSuchNumber") (ns := ["number"]) (vs := [.int i]) (b := false) rfl rfl (rs_asB (rs_asB ?_)))))))
      rfl
    rintro _ rfl
    refine ss_ret (rs_andV (rs_var rfl (rs_asB (rs_andV (rs_call (rs_cons (rs_xf (n := "NoSuchNumber") (ns := ["number"]) (vs := [.int i]) (d := .int i) rfl rfl (rs_nil ?_))))))))
    refine Rs.of (num_eq i) (rs_asB (rs_op (rs_xf (n := "NoSuchNumber") (ns := ["number"]) (vs := [.int i]) (d := .int i) rfl rfl (rs_var rfl (rs_eqI (rs_asB (rs_asB ?_)))))))
    rw [decide_eq_true (rfl : i = i)]
    rfl)
theorem refused_eq (bs : List Bk) (h : GB bs) (hd : dueN bs ≠ 0) : F_l_refused [bL bs, .int (dueN bs : Int)] = .ok (.bl true) := Rs.eq (by
  have hg := ginitR bs h hd
  generalize dueN bs = n at hd hg
  refine rs_run ?_
  unfold Fb_l_refused
  show Ss (seqF _ _ [some (bL bs), some (.int (n : Int)), none, none]) _ _ _ _ _
  refine ss_seq ?_
  refine ss_try (Ss.imp (N := fun z => False) (R := fun _ => False) (B := fun _ => False) (C := fun _ => False) (E := fun r nm ns vs => r = [some (bL bs), some (.int (n : Int)), none, none] ∧ nm = "TooLarge" ∧ ns = ([("many" : Str)] : List Str) ∧ vs = [.int (n : Int)]) ?_ (fun _ z => z.elim) (fun _ z => z.elim) (fun _ z => z.elim) (fun _ z => z.elim) ?_)
  · refine ss_drop ?_
    array_get_dec
    exact Rs.ofE hg ⟨rfl, rfl, rfl, rfl⟩
  · rintro r nm fs vs ⟨rfl, rfl, rfl, rfl⟩
    refine ⟨rfl, ?_⟩
    refine ss_seq (ss_cut (fun z => z = [some (bL bs), some (.int (n : Int)), some (.obj "TooLarge" ["many"] [.int (n : Int)]), some (.bl true)]) ?_ ?_)
    · refine ss_set (rs_andV (rs_isX (n := "TooLarge") (ns := ["many"]) (vs := [.int (n : Int)]) (b := true) rfl rfl (rs_asB (rs_notV (rs_isX (n := "TooLarge") (ns := ["many"]) (vs := [.int (n : Int)]) (b := false) rfl rfl (rs_asB (rs_asB ?_)))))))
      rfl
    rintro _ rfl
    refine ss_ret (rs_andV (rs_var rfl (rs_asB (rs_andV (rs_call (rs_cons (rs_xf (n := "TooLarge") (ns := ["many"]) (vs := [.int (n : Int)]) (d := .int (n : Int)) rfl rfl (rs_nil ?_))))))))
    refine Rs.of (num_eq n) (rs_asB (rs_op (rs_xf (n := "TooLarge") (ns := ["many"]) (vs := [.int (n : Int)]) (d := .int (n : Int)) rfl rfl (rs_var rfl (rs_eqI (rs_asB (rs_asB ?_)))))))
    rw [decide_eq_true (rfl : (n : Int) = n)]
    rfl)
theorem sum_refused (xs ys : List Bk) (h : GB (xs ++ ys)) (hd : dueN (xs ++ ys) ≠ 0) : F_l_sum_refused [galD xs, galD ys, .int (dueN (xs ++ ys) : Int)] = .ok (.bl true) := Rs.eq (by
  have hg := gaddR xs ys h hd
  generalize dueN (xs ++ ys) = n at hd hg
  refine rs_run ?_
  unfold Fb_l_sum_refused
  show Ss (seqF _ _ [some (galD xs), some (galD ys), some (.int (n : Int)), none]) _ _ _ _ _
  refine ss_seq ?_
  refine ss_try (Ss.imp (N := fun z => False) (R := fun _ => False) (B := fun _ => False) (C := fun _ => False) (E := fun r nm ns vs => r = [some (galD xs), some (galD ys), some (.int (n : Int)), none] ∧ nm = "TooLarge" ∧ ns = ([("many" : Str)] : List Str) ∧ vs = [.int (n : Int)]) ?_ (fun _ z => z.elim) (fun _ z => z.elim) (fun _ z => z.elim) (fun _ z => z.elim) ?_)
  · refine ss_set (rs_op (rs_var rfl (rs_var rfl (rs_binX ?_))))
    exact Rs.ofE hg ⟨rfl, rfl, rfl, rfl⟩
  · rintro r nm fs vs ⟨rfl, rfl, rfl, rfl⟩
    refine ⟨rfl, ?_⟩
    refine ss_ret (rs_andV (rs_call (rs_cons (rs_xf (n := "TooLarge") (ns := ["many"]) (vs := [.int (n : Int)]) (d := .int (n : Int)) rfl rfl (rs_nil ?_)))))
    refine Rs.of (num_eq n) (rs_asB (rs_op (rs_xf (n := "TooLarge") (ns := ["many"]) (vs := [.int (n : Int)]) (d := .int (n : Int)) rfl rfl (rs_var rfl (rs_eqI (rs_asB ?_))))))
    rw [decide_eq_true (rfl : (n : Int) = n)]
    rfl)
end
section
theorem rs_propG {n : Str} {F : List D → Res D} {f : Rho → Res D} {r : Rho} {Q : D → Prop} {E : Str → List Str → List D → Prop} (h : Rs (f r) (fun x => isCls n x = true ∧ ∃ d, F [x] = .ok d ∧ Q d) E) : Rs (dProp n F f r) Q E := Rs.bind (h.impE (fun x q => by
  obtain ⟨h1, d, h2, q⟩ := q
  rw [if_pos h1, h2]
  exact q) fun _ _ _ z => z)
theorem clsG (bs : List Bk) : isCls "Galley" (galD bs) = true := isCls_self
theorem gfig (bs : List Bk) : F_Galley_figures [galD bs] = .ok (iL (figs bs)) := Rs.eq (by
  refine rs_runT ?_
  unfold Fb_Galley_figures
  array_get_dec
  refine rs_fld (d := iL (figs bs)) rfl ?_
  array_get_dec
  rfl)
theorem mem_pcs {bs : List Bk} {p : Pc} (h : p ∈ pieces bs) : ∃ b ∈ bs, p ∈ b.ps := List.mem_flatMap.mp h
theorem mem_cs {bs : List Bk} {p : Pc} (h : p ∈ pieces bs) : p.cs.length ≤ (figs bs).length := by
  obtain ⟨s, t, e⟩ := List.append_of_mem h
  unfold figs
  rw [e, List.flatMap_append, List.flatMap_cons, List.length_append, List.length_append]
  omega
theorem mem_ps {bs : List Bk} {b : Bk} (h : b ∈ bs) : b.ps.length ≤ (pieces bs).length := by
  obtain ⟨s, t, rfl⟩ := List.append_of_mem h
  rw [pieces_app, pieces_cons, List.length_append, List.length_append]
  omega
theorem same_ints (n : Nat) (ns : List Int) (h : ns.length ≤ 10000) : F_l_same (n + 2) [iT ns, iT ns] = .ok (.bl true) := same_tup (n + 1) _ (by rw [List.length_map]; exact h) fun d hd => by
  obtain ⟨i, _, rfl⟩ := List.mem_map.mp hd
  exact same_int n i
theorem same_iL (n : Nat) (ns : List Int) (h : ns.length ≤ 10000) : F_l_same (n + 2) [iL ns, iL ns] = .ok (.bl true) := same_lst (n + 1) _ (by rw [List.length_map]; exact h) fun d hd => by
  obtain ⟨i, _, rfl⟩ := List.mem_map.mp hd
  exact same_int n i
theorem same_pc (n : Nat) (p : Pc) (hn : p.ns.length ≤ 10000) (hc : p.cs.length ≤ 10000) : F_l_same (n + 3) [pcD p, pcD p] = .ok (.bl true) := same_tup (n + 2) _ (by simp) fun d hd => by
  simp only [List.mem_cons, List.not_mem_nil, or_false] at hd
  rcases hd with rfl | rfl | rfl | rfl
  · exact same_int (n + 1) _
  · refine same_tup (n + 1) _ ?_ fun d hd => ?_
    · unfold tieL; split <;> simp
    · unfold tieL at hd
      split at hd
      · rw [List.mem_singleton.mp hd]; exact same_str n _
      · simp only [List.mem_cons, List.not_mem_nil, or_false] at hd
        rcases hd with rfl | rfl
        · exact same_str n _
        · exact same_int n _
  · exact same_ints n _ hn
  · exact same_ints n _ hc
theorem same_spn (n : Nat) (t : Pc × Nat × Nat × Nat) : F_l_same (n + 2) [spnD t, spnD t] = .ok (.bl true) := same_tup (n + 1) _ (by simp) fun d hd => by
  simp only [List.mem_cons, List.not_mem_nil, or_false] at hd
  rcases hd with rfl | rfl | rfl <;> exact same_int n _
theorem same_pcs (n : Nat) {bs : List Bk} (h : WOk bs) : F_l_same (n + 4) [.lst ((pieces bs).map pcD), .lst ((pieces bs).map pcD)] = .ok (.bl true) := same_lst (n + 3) _ (by rw [List.length_map]; exact Nat.le_trans h.p (by decide)) fun d hd => by
  obtain ⟨p, hp, rfl⟩ := List.mem_map.mp hd
  obtain ⟨b, hb, hq⟩ := mem_pcs hp
  exact same_pc n p (Nat.le_trans ((h.b b hb).p p hq).nl (by decide)) (Nat.le_trans (mem_cs hp) (Nat.le_trans h.f (by decide)))
theorem same_bL (n : Nat) {bs : List Bk} (h : WOk bs) : F_l_same (n + 6) [bL bs, bL bs] = .ok (.bl true) := same_lst (n + 5) _ (by rw [List.length_map]; exact Nat.le_trans h.len (by decide)) fun d hd => by
  obtain ⟨b, hb, rfl⟩ := List.mem_map.mp hd
  refine same_tup (n + 4) _ (by simp) fun d hd => ?_
  simp only [List.mem_cons, List.not_mem_nil, or_false] at hd
  rcases hd with rfl | rfl | rfl | rfl | rfl
  · exact same_int (n + 3) _
  · exact same_int (n + 3) _
  · exact same_int (n + 3) _
  · exact same_bl (n + 3) _
  · refine same_tup (n + 3) _ (by rw [List.length_map]; exact Nat.le_trans (mem_ps hb) (Nat.le_trans h.p (by decide))) fun d hd => ?_
    obtain ⟨p, hq, rfl⟩ := List.mem_map.mp hd
    have hp : p ∈ pieces bs := List.mem_flatMap.mpr ⟨b, hb, hq⟩
    exact same_pc n p (Nat.le_trans ((h.b b hb).p p hq).nl (by decide)) (Nat.le_trans (mem_cs hp) (Nat.le_trans h.f (by decide)))
abbrev shR (bs : List Bk) (S P H x5 x6 x7 x9 x10 x11 x12 x13 : Option D) : Rho := [some (galD bs), some (bL bs), S, P, H, x5, x6, x7, none, x9, x10, x11, x12, x13]
def spT (i A n : Nat) : D := .tup [.int (i : Int), .int (A : Int), .int ((A + n : Nat) : Int)]
theorem figs_take_le (bs : List Bk) (n : Nat) : (figs (bs.take n)).length ≤ (figs bs).length := by
  conv => rhs; rw [← List.take_append_drop n bs]
  rw [figs_app, List.length_append]
  omega
theorem shows_lists {bs : List Bk} (h : WOk bs) {R : D → Prop} : Ss (forF (dIts rng1 (dCons (dCall (g1 lenD) (dCons (dVar 1) dNil)) dNil)) (tgN 5) Lp_l_shows_2 (shR bs (some (.lst [])) (some (.lst [])) (some (iL [])) none none none none none none none none)) (fun z => ∃ x5 x6 x7, z = shR bs (some (.lst ((flL bs).map spnD))) (some (.lst ((pieces bs).map pcD))) (some (iL (figs bs))) x5 x6 x7 none none none none none) R nR nR (fun _ => nE) := by
  have hl := h.len
  have hp := h.p
  have hf := h.f
  refine ss_rng bs.length (fun i z => ∃ x5 x6 x7, z = shR bs (some (.lst ((flL (bs.take i)).map spnD))) (some (.lst ((pieces (bs.take i)).map pcD))) (some (iL (figs (bs.take i)))) x5 x6 x7 none none none none none) ?_ (by omega) ⟨none, none, none, rfl⟩ ?_ ?_
  · array_get_dec
    rw [List.length_map]
  · rintro i z hi ⟨x5, x6, x7, rfl⟩
    obtain ⟨b, hb⟩ : ∃ b, bs[i]? = some b := ⟨_, List.getElem?_eq_getElem hi⟩
    have hatB : atI (bs.map bkD) (i : Int) = some (bkD b) := atI_nat (by rw [List.getElem?_map, hb]; rfl)
    have ht : (bs.take i).length = i := by rw [List.length_take]; omega
    have h1 := pieces_take_le bs (i + 1)
    have h2 := figs_take_le bs (i + 1)
    rw [take_snoc hb, pieces_app, pieces_cons, List.length_append, List.length_append] at h1
    rw [take_snoc hb, figs_app, figs_one, List.length_append] at h2
    show Ss (Lp_l_shows_2 (shR bs (some (.lst ((flL (bs.take i)).map spnD))) (some (.lst ((pieces (bs.take i)).map pcD))) (some (iL (figs (bs.take i)))) (some (.int (i : Int))) x6 x7 none none none none none)) _ _ _ _ _
    unfold Lp_l_shows_2
    refine ss_seq (ss_cut (fun z => z = shR bs (some (.lst ((flL (bs.take i)).map spnD))) (some (.lst ((pieces (bs.take i)).map pcD))) (some (iL (figs (bs.take i)))) (some (.int (i : Int))) (some (.int ((pieces (bs.take i)).length : Int))) x7 none none none none none) ?_ ?_)
    · array_get_dec
      rw [List.length_map]
      rfl
    rintro _ rfl
    refine ss_eachT pcD b.ps (fun j z => ∃ x7, z = shR bs (some (.lst ((flL (bs.take i)).map spnD ++ List.replicate j (spT i (pieces (bs.take i)).length b.ps.length)))) (some (.lst ((pieces (bs.take i)).map pcD ++ (b.ps.take j).map pcD))) (some (iL (figs (bs.take i) ++ (b.ps.take j).flatMap (·.cs)))) (some (.int (i : Int))) (some (.int ((pieces (bs.take i)).length : Int))) x7 none none none none none) ?_ ?_ ?_ ?_
    · array_get_dec
      exact rs_ixc (ds := [.int b.h, .int b.ind, .int b.bef, .bl b.kp, .tup (b.ps.map pcD)]) 4 rfl rfl
    · refine ⟨x7, ?_⟩
      rw [List.take_zero, List.flatMap_nil, List.map_nil, List.append_nil, List.append_nil, List.replicate_zero, List.append_nil]
    · rintro j p z hj ⟨x7, rfl⟩
      have hj1 := (List.getElem?_eq_some_iff.mp hj).1
      have hjl : ((b.ps.take j).flatMap (·.cs)).length + p.cs.length ≤ (b.ps.flatMap (·.cs)).length := by
        have : b.ps.flatMap (·.cs) = (b.ps.take (j + 1)).flatMap (·.cs) ++ (b.ps.drop (j + 1)).flatMap (·.cs) := by rw [← List.flatMap_append, List.take_append_drop]
        rw [this, take_snoc hj, List.flatMap_append, List.length_append, List.length_append, List.flatMap_cons, List.flatMap_nil, List.append_nil]
        omega
      show Ss (Lp_l_shows_1 (shR bs (some (.lst ((flL (bs.take i)).map spnD ++ List.replicate j (spT i (pieces (bs.take i)).length b.ps.length)))) (some (.lst ((pieces (bs.take i)).map pcD ++ (b.ps.take j).map pcD))) (some (iL (figs (bs.take i) ++ (b.ps.take j).flatMap (·.cs)))) (some (.int (i : Int))) (some (.int ((pieces (bs.take i)).length : Int))) (some (pcD p)) none none none none none)) _ _ _ _ _
      unfold Lp_l_shows_1
      refine ss_seq (ss_cut (fun z => z = shR bs (some (.lst ((flL (bs.take i)).map spnD ++ List.replicate (j + 1) (spT i (pieces (bs.take i)).length b.ps.length)))) (some (.lst ((pieces (bs.take i)).map pcD ++ (b.ps.take j).map pcD))) (some (iL (figs (bs.take i) ++ (b.ps.take j).flatMap (·.cs)))) (some (.int (i : Int))) (some (.int ((pieces (bs.take i)).length : Int))) (some (pcD p)) none none none none none) ?_ ?_)
      · refine ss_app (ds := (flL (bs.take i)).map spnD ++ List.replicate j (spT i (pieces (bs.take i)).length b.ps.length)) rfl ?_
        array_get_dec
        refine rs_ixc (ds := [.int b.h, .int b.ind, .int b.bef, .bl b.kp, .tup (b.ps.map pcD)]) 4 rfl ?_
        array_get_dec
        rw [List.length_map]
        refine ⟨?_, ?_⟩
        · rw [List.length_append, List.length_map, flA_len, List.length_replicate]
          exact Nat.lt_of_lt_of_le (show _ < 100000 by omega) sz5
        · rw [rep_snoc, ← List.append_assoc]
          rfl
      rintro _ rfl
      refine ss_seq (ss_cut (fun z => z = shR bs (some (.lst ((flL (bs.take i)).map spnD ++ List.replicate (j + 1) (spT i (pieces (bs.take i)).length b.ps.length)))) (some (.lst ((pieces (bs.take i)).map pcD ++ (b.ps.take (j + 1)).map pcD))) (some (iL (figs (bs.take i) ++ (b.ps.take j).flatMap (·.cs)))) (some (.int (i : Int))) (some (.int ((pieces (bs.take i)).length : Int))) (some (pcD p)) none none none none none) ?_ ?_)
      · refine ss_app (ds := (pieces (bs.take i)).map pcD ++ (b.ps.take j).map pcD) rfl (rs_var rfl ⟨?_, ?_⟩)
        · rw [List.length_append, List.length_map, List.length_map, List.length_take]
          exact Nat.lt_of_lt_of_le (show _ < 100000 by omega) sz5
        · rw [take_snoc hj, List.map_append, ← List.append_assoc]
          rfl
      rintro _ rfl
      refine ss_set (rs_op (rs_var rfl (rs_call (rs_cons (rs_op (rs_var rfl (rs_c (rs_ixc (ds := [.int p.w, .tup (tieL p), iT p.ns, iT p.cs]) 3 rfl (rs_nil ?_))))))))) 
      refine rs_listT ?_
      refine rs_addLO ?_ ⟨some (pcD p), ?_⟩
      · rw [List.length_map, List.length_map, List.length_append]
        exact Nat.le_trans (by omega) sz5
      · have e : ∀ (a c : List Int), iL (a ++ c) = .lst (a.map D.int ++ c.map D.int) := fun a c => by unfold iL; rw [List.map_append]
        rw [take_snoc hj, List.flatMap_append, List.flatMap_cons, List.flatMap_nil, List.append_nil, ← List.append_assoc, e (figs (bs.take i) ++ (b.ps.take j).flatMap (·.cs)) p.cs]
        rfl
    · rintro z ⟨x7, rfl⟩
      refine ⟨some (.int (i : Int)), some (.int ((pieces (bs.take i)).length : Int)), x7, ?_⟩
      rw [List.take_length, take_snoc hb, flL_snoc, pieces_app, figs_app, figs_one, pieces_cons, List.map_append, List.map_append, List.map_map, ht]
      have e : (b.ps.map (spnD ∘ fun p => (p, i, (pieces (bs.take i)).length, (pieces (bs.take i)).length + b.ps.length))) = List.replicate b.ps.length (spT i (pieces (bs.take i)).length b.ps.length) := by
        rw [← List.map_const']; rfl
      rw [e]
      simp only [pieces, List.flatMap_nil, List.append_nil]
  · rintro z ⟨x5, x6, x7, rfl⟩
    rw [List.take_length]
    exact ⟨x5, x6, x7, rfl⟩
end
section
theorem shows_eq {bs : List Bk} (h : WOk bs) : F_l_shows [galD bs, bL bs] = .ok (.bl true) := Rs.eq (by
  have hl := h.len
  have hp := h.p
  have hf := h.f
  refine rs_run ?_
  unfold Fb_l_shows
  show Ss (seqF _ _ [some (galD bs), some (bL bs), none, none, none, none, none, none, none, none, none, none, none, none]) _ _ _ _ _
  refine ss_seq (ss_cut (fun z => z = shR bs (some (.lst [])) (some (.lst [])) (some (iL [])) none none none none none none none none) ?_ ?_)
  · array_get_dec
    rfl
  rintro _ rfl
  refine ss_seq (ss_cut (fun z => ∃ x5 x6 x7, z = shR bs (some (.lst ((flL bs).map spnD))) (some (.lst ((pieces bs).map pcD))) (some (iL (figs bs))) x5 x6 x7 none none none none none) (shows_lists h) ?_)
  rintro _ ⟨x5, x6, x7, rfl⟩
  refine ss_seq (ss_cut (fun z => z = shR bs (some (.lst ((flL bs).map spnD))) (some (.lst ((pieces bs).map pcD))) (some (iL (figs bs))) x5 x6 x7 none none none none none) ?_ ?_)
  · array_get_dec
    refine rs_lenO (glen bs) (by omega) ?_
    array_get_dec
    refine rs_lc bkD bkD bs (rs_it (rs_var rfl (rs_itO (ds := bs.map bkD) rfl rfl))) (Nat.le_trans hl (Nat.le_trans (by decide) sz5)) (fun b _ => ⟨_, rfl, rfl, rs_var rfl rfl⟩) ?_
    array_get_dec
    refine Rs.of (same_bL 2 h) ?_
    array_get_dec
    rw [List.length_map]
    refine ⟨fun c => ?_, fun _ => rfl⟩
    simp at c
  rintro _ rfl
  refine ss_seq (ss_cut (fun z => ∃ x9 x10 x11, z = shR bs (some (.lst ((flL bs).map spnD))) (some (.lst ((pieces bs).map pcD))) (some (iL (figs bs))) x5 x6 x7 x9 x10 x11 none none) ?_ ?_)
  · refine ss_rng 2 (fun i z => ∃ x9 x10 x11, z = shR bs (some (.lst ((flL bs).map spnD))) (some (.lst ((pieces bs).map pcD))) (some (iL (figs bs))) x5 x6 x7 x9 x10 x11 none none) ?_ (by omega) ⟨none, none, none, rfl⟩ ?_ ?_
    · array_get_dec
      rfl
    · rintro i z hi ⟨x9, x10, x11, rfl⟩
      show Ss (Lp_l_shows_3 (shR bs (some (.lst ((flL bs).map spnD))) (some (.lst ((pieces bs).map pcD))) (some (iL (figs bs))) x5 x6 x7 (some (.int (i : Int))) x10 x11 none none)) _ _ _ _ _
      unfold Lp_l_shows_3
      refine ss_seq (ss_cut (fun z => z = shR bs (some (.lst ((flL bs).map spnD))) (some (.lst ((pieces bs).map pcD))) (some (iL (figs bs))) x5 x6 x7 (some (.int (i : Int))) (some (.lst ((pieces bs).map pcD))) (some (iL (figs bs))) none none) ?_ ?_)
      · exact ss_par (rs_propG (rs_var rfl ⟨clsG bs, _, gpcs bs, rs_propG (rs_var rfl ⟨clsG bs, _, gfig bs, rfl⟩)⟩))
      rintro _ rfl
      refine ss_seq (ss_cut (fun z => z = shR bs (some (.lst ((flL bs).map spnD))) (some (.lst ((pieces bs).map pcD))) (some (iL (figs bs))) x5 x6 x7 (some (.int (i : Int))) (some (.lst ((pieces bs).map pcD))) (some (iL (figs bs))) none none) ?_ ?_)
      · array_get_dec
        refine Rs.of (same_pcs 4 h) ?_
        array_get_dec
        refine Rs.of (same_iL 6 (figs bs) (by omega)) ?_
        array_get_dec
        exact ⟨fun c => (by cases c), fun _ => rfl⟩
      rintro _ rfl
      refine ss_seq (ss_app (ds := (pieces bs).map pcD) rfl (rs_var rfl ⟨?_, ?_⟩))
      · rw [List.length_map]
        exact Nat.lt_of_lt_of_le (show _ < 100000 by omega) sz5
      refine ss_ins (ds := (figs bs).map D.int) (rs_c (rs_var rfl ⟨rfl, rfl, ?_, _, _, _, rfl⟩)) rfl
      rw [List.length_map]
      exact Nat.lt_of_lt_of_le (show _ < 100000 by omega) sz5
    · rintro z hz
      exact hz
  rintro _ ⟨x9, x10, x11, rfl⟩
  refine ss_seq (ss_cut (fun z => ∃ x12, z = shR bs (some (.lst ((flL bs).map spnD))) (some (.lst ((pieces bs).map pcD))) (some (iL (figs bs))) x5 x6 x7 x9 x10 x11 x12 none) ?_ ?_)
  · refine ss_rng (pieces bs).length (fun i z => ∃ x12, z = shR bs (some (.lst ((flL bs).map spnD))) (some (.lst ((pieces bs).map pcD))) (some (iL (figs bs))) x5 x6 x7 x9 x10 x11 x12 none) ?_ (by omega) ⟨none, rfl⟩ ?_ ?_
    · array_get_dec
      rw [List.length_map]
    · rintro i z hi ⟨x12, rfl⟩
      obtain ⟨p, a, s, e, b, hat⟩ := at_ex hi
      show Ss (Lp_l_shows_4 (shR bs (some (.lst ((flL bs).map spnD))) (some (.lst ((pieces bs).map pcD))) (some (iL (figs bs))) x5 x6 x7 x9 x10 x11 (some (.int (i : Int))) none)) _ _ _ _ _
      unfold Lp_l_shows_4
      have hix : atI ((flL bs).map spnD) (i : Int) = some (spnD (p, a, s, e)) := atI_nat (by rw [List.getElem?_map, hat.ff]; rfl)
      refine ss_if (rs_not (rs_T (rs_call (rs_cons (rs_meth (rs_var (d := galD bs) rfl (rs_isObj (ns := ["blocks", "spans", "all_pieces", "all_figures"]) (vs := [bL bs, .lst ((flL bs).map spnD), .lst ((pieces bs).map pcD), iL (figs bs)]) (by decide) (rs_cons (rs_var rfl (rs_nil (Rs.of (gblk hat) ?_)))))))))))
      refine rs_cons (rs_op (rs_var rfl (rs_var rfl (rs_ixL hix (rs_nil ?_)))))
      refine Rs.of (same_spn 6 _) ?_
      array_get_dec
      exact ⟨fun c => (by cases c), fun _ => ss_nx ⟨_, rfl⟩⟩
    · rintro z hz
      exact hz
  rintro _ ⟨x12, rfl⟩
  refine ss_seq (ss_cut (fun z => ∃ x13, z = shR bs (some (.lst ((flL bs).map spnD))) (some (.lst ((pieces bs).map pcD))) (some (iL (figs bs))) x5 x6 x7 x9 x10 x11 x12 x13) ?_ ?_)
  · refine ss_each D.int [-1, ((pieces bs).length : Int), ((pieces bs).length : Int) + 1, -1 - ((pieces bs).length : Int)] (fun i z => ∃ x13, z = shR bs (some (.lst ((flL bs).map spnD))) (some (.lst ((pieces bs).map pcD))) (some (iL (figs bs))) x5 x6 x7 x9 x10 x11 x12 x13) ?_ ⟨none, rfl⟩ ?_ ?_
    · array_get_dec
      rw [List.length_map]
      rfl
    · rintro i a z hi ⟨x13, rfl⟩
      have ha : ¬ (0 ≤ a ∧ a < ((pieces bs).length : Int)) := by
        have := List.mem_of_getElem? hi
        simp only [List.mem_cons, List.not_mem_nil, or_false] at this
        omega
      show Ss (Lp_l_shows_5 (shR bs (some (.lst ((flL bs).map spnD))) (some (.lst ((pieces bs).map pcD))) (some (iL (figs bs))) x5 x6 x7 x9 x10 x11 x12 (some (.int a)))) _ _ _ _ _
      unfold Lp_l_shows_5
      array_get_dec
      refine Rs.of (no_piece bs ha) ?_
      array_get_dec
      exact ⟨fun c => (by cases c), fun _ => ss_nx ⟨_, rfl⟩⟩
    · rintro z hz
      exact hz
  rintro _ ⟨x13, rfl⟩
  array_get_dec
  rfl)
end
section
def NeD (d e : D) : Prop := ∀ p q, toPy d = some p → toPy e = some q → PyData.eqv p q = false
theorem ne_int {i j : Int} (h : i ≠ j) : NeD (.int i) (.int j) := fun p q h1 h2 => by
  simp only [toPy, Option.some.injEq] at h1 h2
  subst h1 h2
  simp only [PyData.eqv]
  simpa using h
theorem ne_bl {i j : Bool} (h : i ≠ j) : NeD (.bl i) (.bl j) := fun p q h1 h2 => by
  simp only [toPy, Option.some.injEq] at h1 h2
  subst h1 h2
  simp only [PyData.eqv]
  cases i <;> cases j <;> first | rfl | exact absurd rfl h
theorem toPyL_cons {d : D} {ds : List D} {ps : List PyData} (h : toPyL (d :: ds) = some ps) : ∃ p qs, ps = p :: qs ∧ toPy d = some p ∧ toPyL ds = some qs := by
  rw [toPyL] at h
  cases h1 : toPy d with
  | none => rw [h1] at h; simp at h
  | some p =>
    cases h2 : toPyL ds with
    | none => rw [h1, h2] at h; simp at h
    | some qs =>
      rw [h1, h2] at h
      simp only [Option.some.injEq] at h
      exact ⟨p, qs, h.symm, rfl, rfl⟩
theorem toPyL_nil {ps : List PyData} (h : toPyL [] = some ps) : ps = [] := by
  rw [toPyL] at h
  simp only [Option.some.injEq] at h
  exact h.symm
theorem toPyL_get : ∀ {ds : List D} {ps : List PyData} {i : Nat} {d : D}, toPyL ds = some ps → ds[i]? = some d → ∃ p, ps[i]? = some p ∧ toPy d = some p
  | [], _, _, _, _, h2 => by simp at h2
  | x :: ds, ps, i, d, h1, h2 => by
    obtain ⟨p, qs, rfl, e1, e2⟩ := toPyL_cons h1
    cases i with
    | zero => exact ⟨p, rfl, by simp at h2; rw [← h2]; exact e1⟩
    | succ i => exact toPyL_get (i := i) e2 (by simpa using h2)
theorem toPyL_len : ∀ {ds : List D} {ps : List PyData}, toPyL ds = some ps → ps.length = ds.length
  | [], _, h => by rw [toPyL_nil h]; rfl
  | x :: ds, ps, h => by
    obtain ⟨p, qs, rfl, e1, e2⟩ := toPyL_cons h
    rw [List.length_cons, List.length_cons, toPyL_len e2]
theorem eqvAll_ne : ∀ {xs ys : List PyData} {i : Nat} {p q : PyData}, xs[i]? = some p → ys[i]? = some q → PyData.eqv p q = false → PyData.eqvAll xs ys = false
  | [], _, _, _, _, h, _, _ => by simp at h
  | _ :: _, [], _, _, _, _, h, _ => by simp at h
  | x :: xs, y :: ys, 0, p, q, h1, h2, h3 => by
    simp at h1 h2
    subst h1 h2
    rw [PyData.eqvAll, h3]
    rfl
  | x :: xs, y :: ys, i + 1, p, q, h1, h2, h3 => by
    rw [PyData.eqvAll, eqvAll_ne (i := i) (by simpa using h1) (by simpa using h2) h3, Bool.and_false]
theorem eqvAll_len : ∀ {xs ys : List PyData}, xs.length ≠ ys.length → PyData.eqvAll xs ys = false
  | [], [], h => absurd rfl h
  | [], _ :: _, _ => by simp [PyData.eqvAll]
  | _ :: _, [], _ => by simp [PyData.eqvAll]
  | x :: xs, y :: ys, h => by
    rw [PyData.eqvAll, eqvAll_len (xs := xs) (ys := ys) (fun z => h (by rw [List.length_cons, List.length_cons, z])), Bool.and_false]
theorem of_tupP {ds : List D} {p : PyData} (h : toPy (.tup ds) = some p) : ∃ ps, toPyL ds = some ps ∧ p = .tuple ps := by
  rw [toPy] at h
  cases e : toPyL ds with
  | none => rw [e] at h; cases h
  | some ps => rw [e] at h; cases h; exact ⟨ps, rfl, rfl⟩
theorem of_lstP {ds : List D} {p : PyData} (h : toPy (.lst ds) = some p) : ∃ ps, toPyL ds = some ps ∧ p = .list ps := by
  rw [toPy] at h
  cases e : toPyL ds with
  | none => rw [e] at h; cases h
  | some ps => rw [e] at h; cases h; exact ⟨ps, rfl, rfl⟩
theorem ne_tup {ds es : List D} {d e : D} (i : Nat) (h1 : ds[i]? = some d) (h2 : es[i]? = some e) (h : NeD d e) : NeD (.tup ds) (.tup es) := fun p q hp hq => by
  obtain ⟨ps, k1, rfl⟩ := of_tupP hp
  obtain ⟨qs, k2, rfl⟩ := of_tupP hq
  obtain ⟨u, a1, a2⟩ := toPyL_get k1 h1
  obtain ⟨v, b1, b2⟩ := toPyL_get k2 h2
  rw [PyData.eqv]
  exact eqvAll_ne a1 b1 (h u v a2 b2)
theorem ne_lst {ds es : List D} {d e : D} (i : Nat) (h1 : ds[i]? = some d) (h2 : es[i]? = some e) (h : NeD d e) : NeD (.lst ds) (.lst es) := fun p q hp hq => by
  obtain ⟨ps, k1, rfl⟩ := of_lstP hp
  obtain ⟨qs, k2, rfl⟩ := of_lstP hq
  obtain ⟨u, a1, a2⟩ := toPyL_get k1 h1
  obtain ⟨v, b1, b2⟩ := toPyL_get k2 h2
  rw [PyData.eqv]
  exact eqvAll_ne a1 b1 (h u v a2 b2)
theorem ne_lstL {ds es : List D} (h : ds.length ≠ es.length) : NeD (.lst ds) (.lst es) := fun p q hp hq => by
  obtain ⟨ps, k1, rfl⟩ := of_lstP hp
  obtain ⟨qs, k2, rfl⟩ := of_lstP hq
  rw [PyData.eqv]
  exact eqvAll_len (by rw [toPyL_len k1, toPyL_len k2]; exact h)
theorem eqN {n : Nat} {d e : D} (h1 : PlD n d) (h2 : PlD n e) (hn : n ≤ 64) (hf : eqFlat d e = none) (h : NeD d e) : eqD d e = .ok (.bl false) := by
  obtain ⟨p, a1, a2, a3⟩ := h1
  obtain ⟨q, b1, b2, b3⟩ := h2
  have sh : ∀ p, PyData.canLay0 p = true → PyData.depth p ≤ n → SeqAt.shaped p = true := fun p x y => by
    unfold SeqAt.shaped
    rw [x, decide_eq_true (by omega)]
    rfl
  unfold eqD eqB
  rw [hf]
  dsimp only
  unfold eqDeep
  rw [a1, b1]
  dsimp only
  rw [if_pos ⟨sh p a2 a3, sh q b2 b3⟩, h p q a1 b1]
  rfl
theorem eqRf {n : Nat} {d : D} (h : PlD n d) (hn : n ≤ 64) (hf : eqFlat d d = none) : eqD d d = .ok (.bl true) := by
  unfold eqD
  rw [eqB_refl h hn hf]
  rfl
theorem rs_isG {bs : List Bk} {Q : D → Prop} {E : Str → List Str → List D → Prop} (q : Q (.bl true)) : Rs (isiO "Galley" (galD bs)) Q E := by
  unfold isiO
  rw [if_pos (clsG bs)]
  exact q
theorem rs_isL {ds : List D} {Q : D → Prop} {E : Str → List Str → List D → Prop} (q : Q (.bl false)) : Rs (isiO "Galley" (.lst ds)) Q E := by
  unfold isiO
  rw [if_neg (by unfold isCls; exact Bool.false_ne_true)]
  exact q
theorem rs_cmpG {F : List D → Res D} {bs : List Bk} {d e : D} {Q : D → Prop} {E : Str → List Str → List D → Prop} (hF : F [galD bs, d] = .ok e) (ht : isCls "Galley" d = true ∨ (tyN d).isSome = true) (q : Q e) : Rs (cmpV "Galley" F (galD bs) d) Q E := by
  unfold cmpV
  rw [if_pos (clsG bs), if_pos ht, hF]
  exact q
theorem geq {xs ys : List Bk} {b : Bool} (h : eqD (bL xs) (bL ys) = .ok (.bl b)) : F_Galley_eq [galD xs, galD ys] = .ok (.bl b) := Rs.eq (by
  refine rs_run ?_
  unfold Fb_Galley_eq
  show Ss (retF _ [some (galD xs), some (galD ys)]) _ _ _ _ _
  refine ss_ret (rs_andV (rs_un (rs_var rfl (rs_isG (rs_asB (rs_op (rs_un (rs_var rfl (rs_fld (d := bL xs) rfl (rs_un (rs_var rfl (rs_fld (d := bL ys) rfl (Rs.of h (rs_asB ?_)))))))))))))) 
  rfl)
theorem geqL (xs : List Bk) (ds : List D) : F_Galley_eq [galD xs, .lst ds] = .ok (.bl false) := Rs.eq (by
  refine rs_run ?_
  unfold Fb_Galley_eq
  show Ss (retF _ [some (galD xs), some (.lst ds)]) _ _ _ _ _
  exact ss_ret (rs_andVc (rs_un (rs_var rfl (rs_isL (rs_asB ⟨fun c => (by cases c), fun _ => rfl⟩))))))
theorem equal_eq {xs : List Bk} {d : D} {b : Bool} (h : F_Galley_eq [galD xs, d] = .ok (.bl b)) (ht : isCls "Galley" d = true ∨ (tyN d).isSome = true) : F_l_equal [galD xs, d, .bl b] = .ok (.bl true) := Rs.eq (by
  refine rs_run ?_
  unfold Fb_l_equal
  show Ss (seqF _ _ [some (galD xs), some d, some (.bl b), none]) _ _ _ _ _
  refine ss_seq (ss_set (rs_op (rs_var rfl (rs_var rfl (rs_cmpG h ht ?_)))))
  show Ss (retF _ [some (galD xs), some d, some (.bl b), some (.bl b)]) _ _ _ _ _
  array_get_dec
  simp)
def nextN (v : Int) : Int := if v < 2000 then v + 1 else v - 1
theorem next_eq (v : Int) : F_l_next [.int v] = .ok (.int (nextN v)) := Rs.eq (by
  refine rs_run ?_
  unfold Fb_l_next
  array_get_dec
  refine ⟨fun c => ?_, fun c => ?_⟩
  · array_get_dec
    unfold nextN
    rw [if_pos (of_decide_eq_true c)]
  · array_get_dec
    unfold nextN
    rw [if_neg (of_decide_eq_false c)])
theorem next_ne (v : Int) : nextN v ≠ v := by unfold nextN; split <;> omega
theorem next_in {v lo : Int} (h : lo ≤ v ∧ v ≤ 2000) (hl : lo ≤ 1) : lo ≤ nextN v ∧ nextN v ≤ 2000 := by unfold nextN; split <;> omega
theorem copied_eq {bs : List Bk} (h : WOk bs) : F_l_copied [bL bs] = .ok (.bl true) := Rs.eq (by
  have hl := h.len
  refine rs_run ?_
  unfold Fb_l_copied
  show Ss (seqF _ _ [some (bL bs), none, none, none]) _ _ _ _ _
  refine ss_seq (ss_cut (fun z => z = [some (bL bs), some (bL bs), none, none]) ?_ ?_)
  · array_get_dec
    rfl
  rintro _ rfl
  refine ss_seq (ss_cut (fun z => z = [some (bL bs), some (bL bs), some (galD bs), some (galD bs)]) ?_ ?_)
  · array_get_dec
    refine Rs.of (ginit bs h) ?_
    array_get_dec
    refine Rs.of (ginit bs h) ?_
    rfl
  rintro _ rfl
  refine ss_seq (ss_cut (fun z => z = [some (bL bs), some (bL bs), some (galD bs), some (galD bs)]) ?_ ?_)
  · array_get_dec
    refine Rs.of (same_bL 2 h) ?_
    array_get_dec
    exact ⟨fun c => (by cases c), fun _ => rfl⟩
  rintro _ rfl
  refine ss_seq (ss_rev (ds := bs.map bkD) rfl ?_)
  refine ss_seq (ss_cut (fun z => ∃ x1, z = [some (bL bs), x1, some (galD bs), some (galD bs)]) ?_ ?_)
  · refine ss_app (ds := (bs.map bkD).reverse) rfl ?_
    array_get_dec
    exact ⟨_, rfl⟩
  rintro _ ⟨x1, rfl⟩
  refine ss_seq (ss_cut (fun z => z = [some (bL bs), x1, some (galD bs), some (galD bs)]) ?_ ?_)
  · array_get_dec
    refine Rs.of (shows_eq h) ?_
    array_get_dec
    refine Rs.of (shows_eq h) ?_
    array_get_dec
    exact ⟨fun c => (by cases c), fun _ => rfl⟩
  rintro _ rfl
  refine ss_ret (rs_andV (rs_call (rs_cons (rs_var rfl (rs_cons (rs_var rfl (rs_cons (rs_c (rs_nil ?_)))))))))
  refine Rs.of (equal_eq (geq (eqRf (pl_bL bs) (by decide) rfl)) (.inl (clsG bs))) ?_
  array_get_dec
  refine Rs.of (equal_eq (geqL bs (bs.map bkD)) (.inr rfl)) ?_
  array_get_dec
  rfl)
end
section
def fA (h i f : Int) (kp : Bool) : Nat → List D
  | 0 => [.int (nextN h), .int i, .int f, .bl kp]
  | 1 => [.int h, .int (nextN i), .int f, .bl kp]
  | 2 => [.int h, .int i, .int (nextN f), .bl kp]
  | _ => [.int h, .int i, .int f, .bl kp]
def fB (h i f : Int) (kp : Bool) (k : Nat) : List D := if k = 3 then [.int h, .int i, .int f, .bl (!kp)] else fA h i f kp k
def pB (qs : List Pc) (q : Pc) (k : Nat) : List Pc := if k = 4 then qs ++ [{ q with w := nextN q.w }] else qs ++ [q]
def nrB (h i f : Int) (kp : Bool) (qs : List Pc) (q : Pc) : Nat → Bk
  | 0 => ⟨nextN h, i, f, kp, qs ++ [q]⟩
  | 1 => ⟨h, nextN i, f, kp, qs ++ [q]⟩
  | 2 => ⟨h, i, nextN f, kp, qs ++ [q]⟩
  | 3 => ⟨h, i, f, !kp, qs ++ [q]⟩
  | _ => ⟨h, i, f, kp, qs ++ [{ q with w := nextN q.w }]⟩
theorem five {k : Nat} (hk : k < 5) : k = 0 ∨ k = 1 ∨ k = 2 ∨ k = 3 ∨ k = 4 := by omega
section
variable {h i f : Int} {kp : Bool} {qs : List Pc} {q : Pc} {k : Nat}
theorem nr_eq (hk : k < 5) : bkD (nrB h i f kp qs q k) = .tup (fB h i f kp k ++ [.tup ((pB qs q k).map pcD)]) := by
  rcases five hk with rfl | rfl | rfl | rfl | rfl <;> rfl
theorem nr_ne (hk : k < 5) : NeD (bkD (nrB h i f kp qs q k)) (bkD ⟨h, i, f, kp, qs ++ [q]⟩) := by
  rcases five hk with rfl | rfl | rfl | rfl | rfl
  · exact ne_tup 0 rfl rfl (ne_int (next_ne h))
  · exact ne_tup 1 rfl rfl (ne_int (next_ne i))
  · exact ne_tup 2 rfl rfl (ne_int (next_ne f))
  · exact ne_tup 3 rfl rfl (ne_bl (show (!kp) ≠ kp from by cases kp <;> decide))
  · refine ne_tup 4 rfl rfl (ne_tup (d := pcD { q with w := nextN q.w }) (e := pcD q) qs.length ?_ ?_ (ne_tup 0 rfl rfl (ne_int (next_ne q.w))))
    · show (List.map pcD (qs ++ [({ q with w := nextN q.w } : Pc)]))[qs.length]? = _
      rw [List.map_append, List.getElem?_append_right (by rw [List.length_map]; exact Nat.le_refl _), List.length_map, Nat.sub_self]; rfl
    · show (List.map pcD (qs ++ [q]))[qs.length]? = _
      rw [List.map_append, List.getElem?_append_right (by rw [List.length_map]; exact Nat.le_refl _), List.length_map, Nat.sub_self]; rfl
theorem nr_len (hk : k < 5) : (nrB h i f kp qs q k).ps.length = (qs ++ [q]).length ∧ ((nrB h i f kp qs q k).ps.flatMap (·.cs)).length = ((qs ++ [q]).flatMap (·.cs)).length := by
  rcases five hk with rfl | rfl | rfl | rfl | rfl
  · exact ⟨rfl, rfl⟩
  · exact ⟨rfl, rfl⟩
  · exact ⟨rfl, rfl⟩
  · exact ⟨rfl, rfl⟩
  · refine ⟨?_, ?_⟩
    · show (qs ++ [_]).length = _
      rw [List.length_append, List.length_append]
      rfl
    · show ((qs ++ [({ q with w := nextN q.w } : Pc)]).flatMap fun x : Pc => x.cs).length = _
      rw [List.flatMap_append, List.flatMap_append]
      rfl
theorem nr_ok (hk : k < 5) (hb : BkOk ⟨h, i, f, kp, qs ++ [q]⟩) (h2 : q.k = 2) (h3 : ∀ x ∈ qs, x.k < 2) : BkOk (nrB h i f kp qs q k) := by
  have o1 := hb.h
  have o2 := hb.i
  have o3 := hb.f
  have o4 := hb.p
  dsimp only at o1 o2 o3 o4
  rcases five hk with rfl | rfl | rfl | rfl | rfl
  · exact ⟨next_in o1 (by omega), o2, o3, o4, ⟨qs, q, rfl, h2, h3⟩⟩
  · exact ⟨o1, next_in o2 (by omega), o3, o4, ⟨qs, q, rfl, h2, h3⟩⟩
  · exact ⟨o1, o2, next_in o3 (by omega), o4, ⟨qs, q, rfl, h2, h3⟩⟩
  · exact ⟨o1, o2, o3, o4, ⟨qs, q, rfl, h2, h3⟩⟩
  · refine ⟨o1, o2, o3, fun p hp => ?_, ⟨qs, { q with w := nextN q.w }, rfl, h2, h3⟩⟩
    have hp : p ∈ qs ++ [{ q with w := nextN q.w }] := hp
    rcases List.mem_append.mp hp with hp | hp
    · exact o4 p (List.mem_append_left _ hp)
    · rw [List.mem_singleton.mp hp]
      have := o4 q (List.mem_append_right _ List.mem_cons_self)
      exact ⟨next_in this.w (by omega), this.k, this.t, this.n, this.nl, this.c⟩
end
theorem near_eq {bs : List Bk} (hw : WOk bs) {a k : Nat} (ha : a < bs.length) (hk : k < 5) : ∃ cs, F_l_near [bL bs, .int (a : Int), .int (k : Int)] = .ok (bL cs) ∧ WOk cs ∧ NeD (bL cs) (bL bs) := by
  have hl := hw.len
  have hp0 := hw.p
  obtain ⟨b, hb⟩ : ∃ b, bs[a]? = some b := ⟨_, List.getElem?_eq_getElem ha⟩
  have hm := List.mem_of_getElem? hb
  have hok := hw.b b hm
  obtain ⟨qs, q, e, q1, q2⟩ := hok.e
  obtain ⟨h, i, f, kp, ps⟩ := b
  dsimp only at e
  subst e
  have hpl := mem_ps hm
  dsimp only at hpl
  have hbs : bs = bs.take a ++ [⟨h, i, f, kp, qs ++ [q]⟩] ++ bs.drop (a + 1) := by rw [← take_snoc hb, List.take_append_drop]
  refine ⟨bs.take a ++ [nrB h i f kp qs q k] ++ bs.drop (a + 1), Rs.eq ?_, ?_, ?_⟩
  · have hatB : atI (bs.map bkD) (a : Int) = some (bkD ⟨h, i, f, kp, qs ++ [q]⟩) := atI_nat (by rw [List.getElem?_map, hb]; rfl)
    obtain ⟨P, hP⟩ : ∃ P, (qs ++ [q]).map pcD = P := ⟨_, rfl⟩
    have hPl : P.length ≤ 40 := by rw [← hP, List.length_map]; omega
    have hB : bkD ⟨h, i, f, kp, qs ++ [q]⟩ = .tup [.int h, .int i, .int f, .bl kp, .tup P] := by rw [← hP]; rfl
    rw [hB] at hatB
    refine rs_run ?_
    unfold Fb_l_near
    show Ss (seqF _ _ [some (bL bs), some (.int (a : Int)), some (.int (k : Int)), none, none, none, none]) _ _ _ _ _
    refine ss_seq (ss_cut (fun z => z = [some (bL bs), some (.int (a : Int)), some (.int (k : Int)), some (.tup [.int h, .int i, .int f, .bl kp, .tup P]), none, none, none]) ?_ ?_)
    · array_get_dec
      rfl
    rintro _ rfl
    refine ss_seq (ss_cut (fun z => z = [some (bL bs), some (.int (a : Int)), some (.int (k : Int)), some (.tup [.int h, .int i, .int f, .bl kp, .tup P]), some (.lst [.int h, .int i, .int f, .bl kp]), some (.lst P), none]) ?_ ?_)
    · array_get_dec
      rw [show cutL [D.int h, .int i, .int f, .bl kp, .tup P] none (some (4 : Int)) = [D.int h, .int i, .int f, .bl kp] from cut_take _ 4]
      array_get_dec
      rfl
    rintro _ rfl
    refine ss_seq (ss_cut (fun z => z = [some (bL bs), some (.int (a : Int)), some (.int (k : Int)), some (.tup [.int h, .int i, .int f, .bl kp, .tup P]), some (.lst (fA h i f kp k)), some (.lst P), none]) ?_ ?_)
    · rcases five hk with rfl | rfl | rfl | rfl | rfl
      · refine ss_if (rs_T (rs_op (rs_var rfl (rs_c (rs_lt (rs_asB ⟨fun _ => ?_, fun c => absurd (of_decide_eq_false c) (by omega)⟩))))))
        exact ss_sto (n := 0) (k := 0) (ds := [.int h, .int i, .int f, .bl kp]) (rs_call (rs_cons (rs_op (rs_var rfl (rs_var rfl (rs_ixc (ds := [.int h, .int i, .int f, .bl kp, .tup P]) 0 rfl (rs_nil (Rs.of (next_eq h) ⟨rfl, rs_var rfl ⟨rfl, rfl, rfl⟩⟩))))))))
      · refine ss_if (rs_T (rs_op (rs_var rfl (rs_c (rs_lt (rs_asB ⟨fun _ => ?_, fun c => absurd (of_decide_eq_false c) (by omega)⟩))))))
        exact ss_sto (n := 1) (k := 1) (ds := [.int h, .int i, .int f, .bl kp]) (rs_call (rs_cons (rs_op (rs_var rfl (rs_var rfl (rs_ixc (ds := [.int h, .int i, .int f, .bl kp, .tup P]) 1 rfl (rs_nil (Rs.of (next_eq i) ⟨rfl, rs_var rfl ⟨rfl, rfl, rfl⟩⟩))))))))
      · refine ss_if (rs_T (rs_op (rs_var rfl (rs_c (rs_lt (rs_asB ⟨fun _ => ?_, fun c => absurd (of_decide_eq_false c) (by omega)⟩))))))
        exact ss_sto (n := 2) (k := 2) (ds := [.int h, .int i, .int f, .bl kp]) (rs_call (rs_cons (rs_op (rs_var rfl (rs_var rfl (rs_ixc (ds := [.int h, .int i, .int f, .bl kp, .tup P]) 2 rfl (rs_nil (Rs.of (next_eq f) ⟨rfl, rs_var rfl ⟨rfl, rfl, rfl⟩⟩))))))))
      · exact ss_if (rs_T (rs_op (rs_var rfl (rs_c (rs_lt (rs_asB ⟨fun c => absurd (of_decide_eq_true c) (by omega), fun _ => ss_nx rfl⟩))))))
      · exact ss_if (rs_T (rs_op (rs_var rfl (rs_c (rs_lt (rs_asB ⟨fun c => absurd (of_decide_eq_true c) (by omega), fun _ => ss_nx rfl⟩))))))
    rintro _ rfl
    refine ss_seq (ss_cut (fun z => z = [some (bL bs), some (.int (a : Int)), some (.int (k : Int)), some (.tup [.int h, .int i, .int f, .bl kp, .tup P]), some (.lst (fB h i f kp k)), some (.lst P), none]) ?_ ?_)
    · refine ss_if (rs_T (rs_op (rs_var rfl (rs_c (rs_eqI (rs_asB ⟨fun c => ?_, fun c => ?_⟩))))))
      · have hk3 : k = 3 := by have := of_decide_eq_true c; omega
        subst hk3
        exact ss_sto (n := 3) (k := 3) (ds := [.int h, .int i, .int f, .bl kp]) (rs_notV (rs_op (rs_var rfl (rs_c (rs_ixc (ds := [.int h, .int i, .int f, .bl kp, .tup P]) 3 rfl (rs_asB ⟨rfl, rs_c ⟨rfl, rfl, rfl⟩⟩))))))
      · have hk3 : ¬ k = 3 := by have := of_decide_eq_false c; omega
        refine ss_nx ?_
        unfold fB
        rw [if_neg hk3]
    rintro _ rfl
    refine ss_seq (ss_cut (fun z => ∃ x6, z = [some (bL bs), some (.int (a : Int)), some (.int (k : Int)), some (.tup [.int h, .int i, .int f, .bl kp, .tup P]), some (.lst (fB h i f kp k)), some (.lst ((pB qs q k).map pcD)), x6]) ?_ ?_)
    · refine ss_if (rs_T (rs_op (rs_var rfl (rs_c (rs_eqI (rs_asB ⟨fun c => ?_, fun c => ?_⟩))))))
      · have hk4 : k = 4 := by have := of_decide_eq_true c; omega
        subst hk4
        have hPs : P = qs.map pcD ++ [pcD q] := by rw [← hP, List.map_append]; rfl
        refine ss_seq (ss_pop (ds := qs.map pcD) (d := pcD q) (by rw [hPs]; rfl) ⟨_, rfl, ?_⟩)
        show Ss (appF 5 _ [some (bL bs), some (.int (a : Int)), some (.int ((4 : Nat) : Int)), some (.tup [.int h, .int i, .int f, .bl kp, .tup P]), some (.lst (fB h i f kp 4)), some (.lst (qs.map pcD)), some (pcD q)]) _ _ _ _ _
        have i0 : ∀ {Q : D → Prop} {E : Str → List Str → List D → Prop}, Q (.int q.w) → Rs (ixD (pcD q) (.int 0)) Q E := fun z => rs_ixc (ds := [.int q.w, .tup (tieL q), iT q.ns, iT q.cs]) 0 rfl z
        have i1 : ∀ {Q : D → Prop} {E : Str → List Str → List D → Prop}, Q (.tup (tieL q)) → Rs (ixD (pcD q) (.int 1)) Q E := fun z => rs_ixc (ds := [.int q.w, .tup (tieL q), iT q.ns, iT q.cs]) 1 rfl z
        have i2 : ∀ {Q : D → Prop} {E : Str → List Str → List D → Prop}, Q (iT q.ns) → Rs (ixD (pcD q) (.int 2)) Q E := fun z => rs_ixc (ds := [.int q.w, .tup (tieL q), iT q.ns, iT q.cs]) 2 rfl z
        have i3 : ∀ {Q : D → Prop} {E : Str → List Str → List D → Prop}, Q (iT q.cs) → Rs (ixD (pcD q) (.int 3)) Q E := fun z => rs_ixc (ds := [.int q.w, .tup (tieL q), iT q.ns, iT q.cs]) 3 rfl z
        refine ss_app (ds := qs.map pcD) rfl (rs_tup (rs_cons (rs_call (rs_cons (rs_op (rs_var rfl (rs_c (i0 (rs_nil ?_)))))))))
        refine Rs.of (next_eq q.w) (rs_cons (rs_op (rs_var rfl (rs_c (i1 ?_)))))
        refine rs_cons (rs_op (rs_var rfl (rs_c (i2 ?_))))
        refine rs_cons (rs_op (rs_var rfl (rs_c (i3 ?_))))
        refine rs_nil ⟨Nat.le_of_ble_eq_true rfl, ?_, some (pcD q), ?_⟩
        · rw [List.length_map]
          rw [List.length_append] at hpl
          exact Nat.lt_of_lt_of_le (show _ < 100000 by omega) sz5
        · unfold pB
          rw [if_pos rfl, List.map_append]
          rfl
      · have hk4 : ¬ k = 4 := by have := of_decide_eq_false c; omega
        refine ss_nx ⟨none, ?_⟩
        unfold pB
        rw [if_neg hk4, hP]
    rintro _ ⟨x6, rfl⟩
    have hF : (fB h i f kp k).length = 4 := by rcases five hk with rfl | rfl | rfl | rfl | rfl <;> rfl
    have hL : (pB qs q k).length ≤ 40 := by
      unfold pB
      rw [List.length_append] at hpl
      split <;> (rw [List.length_append]; simp only [List.length_cons, List.length_nil] at hpl ⊢; omega)
    obtain ⟨A, hA⟩ : ∃ A, fB h i f kp k = A := ⟨_, rfl⟩
    obtain ⟨Z, hZ⟩ : ∃ Z, (pB qs q k).map pcD = Z := ⟨_, rfl⟩
    have hZl : Z.length ≤ 40 := by rw [← hZ, List.length_map]; exact hL
    rw [hA] at hF
    have he : bL (bs.take a ++ [nrB h i f kp qs q k] ++ bs.drop (a + 1)) = .lst ((bs.take a).map bkD ++ [.tup (A ++ [.tup Z])] ++ (bs.drop (a + 1)).map bkD) := by
      unfold bL
      rw [List.map_append, List.map_append, List.map_cons, List.map_nil, nr_eq hk, hA, hZ]
    rw [he, hA, hZ]
    refine ss_ret (rs_op (rs_op (rs_sl (rs_var rfl (rs_noP (rs_part (rs_var rfl (rs_asI ?_))))))))
    refine rs_slL ?_
    rw [cut_take, ← List.map_take]
    refine rs_lst (rs_cons (rs_op (rs_call (rs_cons (rs_var rfl (rs_nil (rs_tupL (rs_tup (rs_cons (rs_call (rs_cons (rs_var rfl (rs_nil (rs_tupL (rs_nil ⟨Nat.le_of_ble_eq_true rfl, ?_⟩)))))))))))))))
    refine rs_addT (by rw [hF]; exact Nat.le_of_ble_eq_true rfl) (rs_nil ⟨Nat.le_of_ble_eq_true rfl, ?_⟩)
    refine rs_addLL ?_ ?_
    · rw [List.length_map, List.length_take]
      exact Nat.le_trans (m := 100000) (by simp only [List.length_cons, List.length_nil]; omega) sz5
    refine rs_sl (rs_var rfl (rs_part (rs_op (rs_var rfl (rs_c (rs_add (rs_asI (rs_noP ?_))))))))
    refine rs_slL ?_
    rw [show ((a : Int) + 1) = ((a + 1 : Nat) : Int) from by omega, cut_drop, ← List.map_drop]
    refine rs_addLL ?_ rfl
    rw [List.length_append, List.length_map, List.length_take, List.length_map, List.length_drop]
    exact Nat.le_trans (m := 100000) (by simp only [List.length_cons, List.length_nil]; omega) sz5
  · obtain ⟨n1, n2⟩ := nr_len (h := h) (i := i) (f := f) (kp := kp) (qs := qs) (q := q) hk
    have e1 : (pieces (bs.take a ++ [nrB h i f kp qs q k] ++ bs.drop (a + 1))).length = (pieces bs).length := by
      conv => rhs; rw [hbs]
      rw [pieces_app, pieces_app, pieces_app, pieces_app, pieces_cons, pieces_cons]
      simp only [List.length_append] at n1 ⊢
      omega
    have e2 : (figs (bs.take a ++ [nrB h i f kp qs q k] ++ bs.drop (a + 1))).length = (figs bs).length := by
      conv => rhs; rw [hbs]
      rw [figs_app, figs_app, figs_app, figs_app, figs_one, figs_one]
      simp only [List.length_append] at n2 ⊢
      omega
    refine ⟨fun x hx => ?_, by rw [e1]; exact hw.p, by rw [e2]; exact hw.f⟩
    rcases List.mem_append.mp hx with hx | hx
    · rcases List.mem_append.mp hx with hx | hx
      · exact hw.b x (List.mem_of_mem_take hx)
      · rw [List.mem_singleton.mp hx]
        exact nr_ok hk hok q1 q2
    · exact hw.b x (List.mem_of_mem_drop hx)
  · refine ne_lst (d := bkD (nrB h i f kp qs q k)) (e := bkD ⟨h, i, f, kp, qs ++ [q]⟩) a ?_ ?_ (nr_ne hk)
    · rw [List.getElem?_map, List.append_assoc, List.getElem?_append_right (by rw [List.length_take]; omega), List.length_take, show a - min a bs.length = 0 from by omega]
      rfl
    · rw [List.getElem?_map, hb]
      rfl
end
section
abbrev jR (xs ys : List Bk) (a2 a3 a4 a5 a6 a7 a8 a9 : Option D) : Rho := [some (bL xs), some (bL ys), a2, a3, a4, a5, a6, a7, a8, a9, none]
def ebk : Bk := ⟨1, 0, 0, false, [⟨1, 2, 0, [], []⟩]⟩
theorem w_nil : WOk [] := ⟨fun b hb => (by cases hb), by simp [pieces], by simp [figs, pieces]⟩
theorem w_ebk : WOk [ebk] := ⟨fun b hb => by
  rw [List.mem_singleton.mp hb]
  refine ⟨by decide, by decide, by decide, fun p hp => ?_, ⟨[], ⟨1, 2, 0, [], []⟩, rfl, rfl, fun x hx => by cases hx⟩⟩
  rw [List.mem_singleton.mp hp]
  exact ⟨(by decide : (1 : Int) ≤ 1 ∧ (1 : Int) ≤ 2000), (by decide : 2 ≤ 2), (by decide : (0 : Int) ≤ 0 ∧ (0 : Int) ≤ 2000), fun h hh => (by cases hh), (by decide : 0 ≤ 4), fun h hh => (by cases hh)⟩, by decide, by decide⟩
theorem map_app (xs ys : List Bk) : D.lst (xs.map bkD ++ ys.map bkD) = bL (xs ++ ys) := by rw [bL, List.map_append]
section
variable {xs ys : List Bk} {r : Rho} {i j : Nat} {Q : D → Prop} {E : Str → List Str → List D → Prop}
theorem rs_joined (hx : xs.length ≤ 1000) (hy : ys.length ≤ 1000) (h1 : r[i]? = some (some (bL xs))) (h2 : r[j]? = some (some (bL ys))) (q : Q (bL (xs ++ ys))) : Rs (dOp addD (dVar i) (dVar j) r) Q E := by
  refine rs_op (rs_var h1 (rs_var h2 ?_))
  refine rs_addLL ?_ ?_
  · rw [List.length_map, List.length_map]
    exact Nat.le_trans (m := 100000) (by omega) sz5
  · rw [map_app]
    exact q
theorem rs_made (hx : WOk xs) (h1 : r[i]? = some (some (bL xs))) (q : Q (galD xs)) : Rs (dCall F_Galley_init (dCons (dCall (g1 listD) (dCons (dVar i) dNil)) dNil) r) Q E :=
  rs_call (rs_cons (rs_call (rs_cons (rs_var h1 (rs_nil (rs_listL (rs_nil (Rs.of (ginit xs hx) q))))))))
theorem rs_due (hx : GB xs) {f : Rho → Res D} (h1 : Rs (f r) (fun d => d = bL xs) nE) (q : Q (.int (dueN xs : Int))) : Rs (dCall F_l_due (dCons f dNil) r) Q E :=
  rs_call (rs_cons (h1.imp fun d e => by subst e; exact rs_nil (Rs.of (due_sp xs hx) q)))
theorem rs_shows (hx : WOk xs) {f g : Rho → Res D} (h1 : Rs (f r) (fun d => d = galD xs) nE) (h2 : Rs (g r) (fun d => d = bL xs) nE) (q : Q (.bl true)) : Rs (dCall F_l_shows (dCons f (dCons g dNil)) r) Q E :=
  rs_call (rs_cons (h1.imp fun d e => by
    subst e
    exact rs_cons (h2.imp fun d e => by subst e; exact rs_nil (Rs.of (shows_eq hx) q))))
theorem rs_showsB (hx : WOk xs) {f g : Rho → Res D} {Q : Bool → Prop} (h1 : Rs (f r) (fun d => d = galD xs) nE) (h2 : Rs (g r) (fun d => d = bL xs) nE) (q : Q true) : Rs (dT (dCall F_l_shows (dCons f (dCons g dNil))) r) Q E :=
  rs_T (rs_shows hx h1 h2 (rs_asB q))
end
theorem eq_len {xs ys : List Bk} : eqD (bL (xs ++ ys)) (bL xs) = .ok (.bl (decide ((ys.length : Int) = 0))) := by
  cases ys with
  | nil =>
    rw [List.append_nil]
    exact eqRf (pl_bL xs) (by decide) rfl
  | cons y ys =>
    rw [decide_eq_false (show ¬ (((y :: ys).length : Int) = 0) by rw [List.length_cons]; omega)]
    exact eqN (pl_bL _) (pl_bL _) (by decide) rfl (ne_lstL (by rw [List.length_map, List.length_map, List.length_append, List.length_cons]; omega))
/-- where the two are too many -/
theorem joins_no {xs ys : List Bk} (h1 : WOk xs) (h2 : WOk ys) (hd : dueN (xs ++ ys) ≠ 0) : F_l_joins [bL xs, bL ys] = .ok (.bl true) := Rs.eq (by
  have hl1 := h1.len
  have hl2 := h2.len
  have hg := WOk.app h1 h2
  refine rs_run ?_
  unfold Fb_l_joins
  show Ss (seqF _ _ (jR xs ys none none none none none none none none)) _ _ _ _ _
  refine ss_seq (ss_cut (fun z => z = jR xs ys (some (galD xs)) (some (galD ys)) (some (galD xs)) none none none none none) ?_ ?_)
  · exact ss_par3 (rs_made h1 rfl (rs_made h2 rfl (rs_made h1 rfl rfl)))
  rintro _ rfl
  refine ss_seq (ss_cut (fun z => z = jR xs ys (some (galD xs)) (some (galD ys)) (some (galD xs)) (some (.int (dueN (xs ++ ys) : Int))) none none none none) ?_ ?_)
  · exact ss_set (rs_due hg (rs_joined (by omega) (by omega) rfl rfl rfl) rfl)
  rintro _ rfl
  refine ss_seq (ss_if (rs_T (rs_op (rs_var rfl (rs_c (rs_gt (rs_asB ⟨fun _ => ?_, fun c => absurd (of_decide_eq_false c) (by omega)⟩)))))))
  refine ss_seq (ss_cut (fun z => z = jR xs ys (some (galD xs)) (some (galD ys)) (some (galD xs)) (some (.int (dueN (xs ++ ys) : Int))) none none none none) ?_ ?_)
  · refine ss_ifM (rs_orM (rs_notM (rs_pureM (rs_T (rs_call (rs_cons (rs_var rfl (rs_cons (rs_var rfl (rs_cons (rs_var rfl (rs_nil ?_))))))))))))
    refine Rs.of (sum_refused xs ys hg hd) (rs_asB ⟨rfl, ?_⟩)
    exact rs_notM (rs_callMJ (d := galD xs) (d1 := galD ys) rfl rfl (rs_var rfl rfl) (added_no xs ys hg hd) ⟨rfl, ss_nx rfl⟩)
  rintro _ rfl
  refine ss_ret (rs_andV (rs_shows h1 (rs_var rfl rfl) (rs_var rfl rfl) (rs_asB (rs_andV (rs_shows h2 (rs_var rfl rfl) (rs_var rfl rfl) (rs_asB (rs_shows h1 (rs_var rfl rfl) (rs_var rfl rfl) (rs_asB (rs_asB ?_)))))))))
  rfl)
/-- where they are not -/
theorem joins_ok {xs ys : List Bk} (h1 : WOk xs) (h2 : WOk ys) (hd : dueN (xs ++ ys) = 0) : F_l_joins [bL xs, bL ys] = .ok (.bl true) := Rs.eq (by
  have hl1 := h1.len
  have hl2 := h2.len
  have hg := WOk.app h1 h2
  have hw := hg.wok hd
  refine rs_run ?_
  unfold Fb_l_joins
  show Ss (seqF _ _ (jR xs ys none none none none none none none none)) _ _ _ _ _
  refine ss_seq (ss_cut (fun z => z = jR xs ys (some (galD xs)) (some (galD ys)) (some (galD xs)) none none none none none) ?_ ?_)
  · exact ss_par3 (rs_made h1 rfl (rs_made h2 rfl (rs_made h1 rfl rfl)))
  rintro _ rfl
  refine ss_seq (ss_cut (fun z => z = jR xs ys (some (galD xs)) (some (galD ys)) (some (galD xs)) (some (.int ((0 : Nat) : Int))) none none none none) ?_ ?_)
  · refine ss_set (rs_due hg (rs_joined (by omega) (by omega) rfl rfl rfl) ?_)
    rw [hd]
    rfl
  rintro _ rfl
  refine ss_seq (ss_cut (fun z => z = jR xs ys (some (galD xs)) (some (galD ys)) (some (galD xs)) (some (.int ((0 : Nat) : Int))) none none none none) ?_ ?_)
  · exact ss_if (rs_T (rs_op (rs_var rfl (rs_c (rs_gt (rs_asB ⟨fun c => absurd (of_decide_eq_true c) (by omega), fun _ => ss_nx rfl⟩))))))
  rintro _ rfl
  refine ss_seq (ss_cut (fun z => z = jR xs ys (some (galD xs)) (some (galD ys)) (some (galD xs)) (some (.int ((0 : Nat) : Int))) (some (galD (xs ++ ys))) none none none) ?_ ?_)
  · exact ss_set (rs_op (rs_var rfl (rs_var rfl (rs_binO (gadd xs ys hw) rfl))))
  rintro _ rfl
  refine ss_seq (ss_cut (fun z => z = jR xs ys (some (galD xs)) (some (galD ys)) (some (galD xs)) (some (.int ((0 : Nat) : Int))) (some (galD (xs ++ ys))) none none none) ?_ ?_)
  · refine ss_if (rs_or (rs_not (rs_showsB hw (rs_var rfl rfl) (rs_joined (by omega) (by omega) rfl rfl rfl) (rs_or (rs_not (rs_showsB h1 (rs_var rfl rfl) (rs_var rfl rfl) (rs_not (rs_showsB h2 (rs_var rfl rfl) (rs_var rfl rfl) ?_))))))))
    exact ⟨fun c => (by cases c), fun _ => ss_nx rfl⟩
  rintro _ rfl
  refine ss_seq (ss_cut (fun z => z = jR xs ys (some (galD xs)) (some (galD ys)) (some (galD (xs ++ ys))) (some (.int ((0 : Nat) : Int))) (some (galD (xs ++ ys))) none none none) ?_ ?_)
  · refine ss_ifM (rs_orM (rs_notM (rs_callMJ (d := galD xs) (d1 := galD ys) rfl rfl (rs_c rfl) (added_ok xs ys hw) ⟨rfl, ?_⟩)))
    show Rs (orM _ _ (jR xs ys (some (galD xs)) (some (galD ys)) (some (galD (xs ++ ys))) (some (.int ((0 : Nat) : Int))) (some (galD (xs ++ ys))) none none none)) _ _
    refine rs_orM (rs_notM (rs_pureM (rs_showsB hw (rs_var rfl rfl) (rs_joined (by omega) (by omega) rfl rfl rfl) ⟨rfl, ?_⟩)))
    exact rs_notM (rs_pureM (rs_showsB h2 (rs_var rfl rfl) (rs_var rfl rfl) ⟨rfl, ss_nx rfl⟩))
  rintro _ rfl
  refine ss_seq (ss_cut (fun z => z = jR xs ys (some (galD xs)) (some (galD ys)) (some (galD (xs ++ ys))) (some (.int ((0 : Nat) : Int))) (some (galD (xs ++ ys))) none none none) ?_ ?_)
  · refine ss_if (rs_or (rs_not (rs_T (rs_call (rs_cons (rs_var rfl (rs_cons (rs_var rfl (rs_cons (rs_c (rs_nil ?_)))))))))))
    refine Rs.of (equal_eq (geq (eqRf (pl_bL (xs ++ ys)) (by decide) rfl)) (.inl (clsG _))) (rs_asB ?_)
    refine rs_not (rs_T (rs_call (rs_cons (rs_var rfl (rs_cons (rs_var rfl (rs_cons (rs_op (rs_call (rs_cons (rs_var rfl (rs_nil (rs_lenL (rs_c (rs_eqI (rs_nil ?_))))))))))))))))
    rw [List.length_map]
    refine Rs.of (equal_eq (geq eq_len) (.inl (clsG _))) (rs_asB ?_)
    exact ⟨fun c => (by cases c), fun _ => ss_nx rfl⟩
  rintro _ rfl
  refine ss_seq (ss_cut (fun z => z = jR xs ys (some (galD xs)) (some (galD ys)) (some (galD (xs ++ ys))) (some (.int ((0 : Nat) : Int))) (some (galD (xs ++ ys))) (some (galD [])) none none) ?_ ?_)
  · exact ss_set (Rs.of ginit0 rfl)
  rintro _ rfl
  refine ss_seq (ss_cut (fun z => z = jR xs ys (some (galD xs)) (some (galD ys)) (some (galD (xs ++ ys))) (some (.int ((0 : Nat) : Int))) (some (galD (xs ++ ys))) (some (galD xs)) none none) ?_ ?_)
  · refine ss_ifM (rs_orM (rs_notM (rs_callMO (d := galD []) (d1 := galD xs) rfl (rs_made h1 rfl rfl) (rs_c rfl) (added_ok [] xs h1) ⟨rfl, ?_⟩)))
    show Rs (orM _ _ (jR xs ys (some (galD xs)) (some (galD ys)) (some (galD (xs ++ ys))) (some (.int ((0 : Nat) : Int))) (some (galD (xs ++ ys))) (some (galD xs)) none none)) _ _
    refine rs_orM (rs_notM (rs_pureM (rs_showsB h1 (rs_var rfl rfl) (rs_var rfl rfl) ⟨rfl, ?_⟩)))
    exact rs_notM (rs_pureM (rs_showsB w_nil (Rs.of ginit0 rfl) (rs_lst (rs_nil ⟨Nat.le_of_ble_eq_true rfl, rfl⟩)) ⟨rfl, ss_nx rfl⟩))
  rintro _ rfl
  refine ss_seq (ss_cut (fun z => z = jR xs ys (some (galD xs)) (some (galD ys)) (some (galD (xs ++ ys))) (some (.int ((0 : Nat) : Int))) (some (galD (xs ++ ys))) (some (galD xs)) (some (bL [ebk])) none) ?_ ?_)
  · array_get_dec
    rfl
  rintro _ rfl
  refine ss_seq (ss_cut (fun z => ∃ x3, z = jR xs ys (some (galD xs)) x3 (some (galD (xs ++ ys))) (some (.int ((0 : Nat) : Int))) (some (galD (xs ++ ys))) (some (galD xs)) (some (bL [ebk])) none) ?_ ?_)
  · have hge := WOk.app h2 w_ebk
    refine ss_if (rs_T (rs_op (rs_due hge (rs_joined (by omega) (by simp) rfl rfl rfl) (rs_c (rs_eqI (rs_asB ⟨fun c => ?_, fun c => ss_nx ⟨_, rfl⟩⟩))))))
    have hde : dueN (ys ++ [ebk]) = 0 := by have := of_decide_eq_true c; omega
    have hwe := hge.wok hde
    refine ss_ifM (rs_orM (rs_notM (rs_callMO (d := galD ys) (d1 := galD [ebk]) rfl (rs_made w_ebk rfl rfl) (rs_c rfl) (added_ok ys [ebk] hwe) ⟨rfl, ?_⟩)))
    show Rs (notM _ (jR xs ys (some (galD xs)) (some (galD (ys ++ [ebk]))) (some (galD (xs ++ ys))) (some (.int ((0 : Nat) : Int))) (some (galD (xs ++ ys))) (some (galD xs)) (some (bL [ebk])) none)) _ _
    exact rs_notM (rs_pureM (rs_showsB hwe (rs_var rfl rfl) (rs_joined (by omega) (by simp) rfl rfl rfl) ⟨rfl, ss_nx ⟨_, rfl⟩⟩))
  rintro _ ⟨x3, rfl⟩
  have hgt := WOk.app h1 h1
  refine ss_seq (ss_cut (fun z => z = jR xs ys (some (galD xs)) x3 (some (galD (xs ++ ys))) (some (.int ((0 : Nat) : Int))) (some (galD (xs ++ ys))) (some (galD xs)) (some (bL [ebk])) (some (.int (dueN (xs ++ xs) : Int)))) ?_ ?_)
  · exact ss_set (rs_due hgt (rs_joined (by omega) (by omega) rfl rfl rfl) rfl)
  rintro _ rfl
  refine ss_seq (ss_cut (fun z => ∃ zs, z = jR xs ys (some (galD (xs ++ zs))) x3 (some (galD (xs ++ ys))) (some (.int ((0 : Nat) : Int))) (some (galD (xs ++ ys))) (some (galD xs)) (some (bL [ebk])) (some (.int (dueN (xs ++ xs) : Int))) ∧ WOk (xs ++ zs) ∧ zs = xs.filter fun _ => decide ((dueN (xs ++ xs) : Int) = 0)) ?_ ?_)
  · by_cases hdt : dueN (xs ++ xs) = 0
    · have hwt := hgt.wok hdt
      refine ss_ifM (rs_notM (rs_callMJ (d := galD xs) (d1 := galD xs) (d2 := .int 0) rfl rfl (rs_var rfl (by rw [hdt]; rfl)) (added_ok xs xs hwt) ⟨rfl, ss_nx ⟨xs, rfl, hwt, ?_⟩⟩))
      rw [hdt]
      exact (List.filter_eq_self.mpr fun _ _ => rfl).symm
    · refine ss_ifM (rs_notM (rs_callMJ (d := galD xs) (d1 := galD xs) rfl rfl (rs_var rfl rfl) (added_no xs xs hgt hdt) ⟨rfl, ss_nx ⟨[], ?_, ?_, ?_⟩⟩))
      · rw [List.append_nil]; rfl
      · rw [List.append_nil]; exact h1
      · exact (List.filter_eq_nil_iff.mpr fun _ _ z => absurd (of_decide_eq_true z) (by omega)).symm
  rintro _ ⟨zs, rfl, hwz, hz⟩
  have hzl : zs.length ≤ 1000 := by
    rw [hz]
    exact Nat.le_trans (List.length_filter_le _ _) (by omega)
  refine ss_seq (ss_cut (fun z => z = jR xs ys (some (galD (xs ++ zs))) x3 (some (galD (xs ++ ys))) (some (.int ((0 : Nat) : Int))) (some (galD (xs ++ ys))) (some (galD xs)) (some (bL [ebk])) (some (.int (dueN (xs ++ xs) : Int)))) ?_ ?_)
  · refine ss_if (rs_not (rs_showsB hwz (rs_var rfl rfl) (rs_op (rs_var rfl (rs_lcF bkD bkD (fun _ => decide ((dueN (xs ++ xs) : Int) = 0)) xs (rs_it (rs_var rfl (rs_itsL rfl))) (Nat.le_trans (m := 100000) (by omega) sz5) (fun x _ => ⟨_, rfl, rs_T (rs_op (rs_var rfl (rs_c (rs_eqI (rs_asB rfl))))), fun _ => rs_var rfl rfl⟩) ?_))) ?_))
    · rw [← hz]
      refine rs_addLL ?_ (map_app xs zs)
      rw [List.length_map, List.length_map]
      exact Nat.le_trans (m := 100000) (by omega) sz5
    · exact ⟨fun c => (by cases c), fun _ => ss_nx rfl⟩
  rintro _ rfl
  refine ss_ret (rs_andV (rs_shows hw (rs_var rfl rfl) (rs_joined (by omega) (by omega) rfl rfl rfl) (rs_asB (rs_shows hw (rs_var rfl rfl) (rs_joined (by omega) (by omega) rfl rfl rfl) (rs_asB ?_)))))
  rfl)
theorem joins_eq {xs ys : List Bk} (h1 : WOk xs) (h2 : WOk ys) : F_l_joins [bL xs, bL ys] = .ok (.bl true) := by
  by_cases hd : dueN (xs ++ ys) = 0
  · exact joins_ok h1 h2 hd
  · exact joins_no h1 h2 hd
end
section
abbrev scD (ns : List Int) : D := .fz (ns.map D.int)
theorem cells_sp (ns : List Int) (a : Nat) : Rs (F_l_cells_from [scD ns, .int (a : Int)]) (fun d => ∃ cs, d = iL cs ∧ 0 < cs.length ∧ cs.length ≤ 1000) nE := by
  refine rs_run ?_
  unfold Fb_l_cells_from
  show Ss (retF _ [some (scD ns), some (.int (a : Int)), none]) _ _ _ _ _
  obtain ⟨n, h1, h2, h3⟩ : ∃ n : Nat, max2 1 (min2 8 ((ns.length : Int) - (a : Int))) = (n : Int) ∧ 0 < n ∧ n ≤ 8 := ⟨(max2 1 (min2 8 ((ns.length : Int) - (a : Int)))).toNat, by unfold max2 min2; omega, by unfold max2 min2; omega, by unfold max2 min2; omega⟩
  refine ss_ret (rs_lc (fun i : Nat => D.int (0 + (i : Int))) (fun i : Nat => D.int (ns.getD (a + i) 0)) (List.range n) ?_ ?_ ?_ ?_)
  · array_get_dec
    rw [List.length_map, h1]
    exact rs_rng1 (by omega) rfl
  · rw [List.length_range]
    exact Nat.le_trans (m := 100000) (by omega) sz5
  · intro i hi
    refine ⟨_, rfl, rfl, ?_⟩
    array_get_dec
    rw [show (a : Int) + (0 + (i : Int)) = ((a + i : Nat) : Int) from by omega]
    exact Rs.of (cell_eq ns (a + i)) rfl
  · refine ⟨(List.range n).map fun i => ns.getD (a + i) 0, ?_, ?_, ?_⟩
    · unfold iL
      rw [List.map_map]
      rfl
    · rw [List.length_map, List.length_range]; exact h2
    · rw [List.length_map, List.length_range]; omega
/-- what is known of the drawn tellings -/
structure Dr (xs : List Bk) : Prop where
  b : ∀ b ∈ xs, BkOk b
  p : (pieces xs).length ≤ 41
  f : (figs xs).length ≤ 6
theorem Dr.app {xs ys : List Bk} (h1 : Dr xs) (h2 : Dr ys) : GB (xs ++ ys) := by
  have a := h1.p
  have b := h1.f
  have c := h2.p
  have d := h2.f
  refine ⟨fun z hz => (List.mem_append.mp hz).elim (h1.b z) (h2.b z), ?_, ?_⟩
  · rw [pieces_app, List.length_append]; omega
  · rw [figs_app, List.length_append]; omega
theorem Dr.gb {xs : List Bk} (h : Dr xs) : GB xs := ⟨h.b, Nat.le_trans h.p (by decide), Nat.le_trans h.f (by decide)⟩
theorem sizes_at (v0 : Int) (c1 c2 : Nat) (h : 0 ≤ v0) (h1 : c1 ≤ 41) (h2 : c2 ≤ 41) : ∃ m1 m2 : Nat, m1 ≤ 41 ∧ m2 ≤ 41 ∧ atI [D.tup [.int 40, .int 0], D.tup [.int 41, .int 0], D.tup [.int 20, .int 20], D.tup [.int 20, .int 21], D.tup [.int 39, .int 2], D.tup [.int (c1 : Int), .int (c2 : Int)]] (min2 v0 5) = some (D.tup [.int (m1 : Int), .int (m2 : Int)]) := by
  obtain ⟨m, hm⟩ : ∃ m, min2 v0 5 = m := ⟨_, rfl⟩
  have : m = 0 ∨ m = 1 ∨ m = 2 ∨ m = 3 ∨ m = 4 ∨ m = 5 := by unfold min2 at hm; omega
  rw [hm]
  rcases this with rfl | rfl | rfl | rfl | rfl | rfl
  · exact ⟨40, 0, by omega, by omega, rfl⟩
  · exact ⟨41, 0, by omega, by omega, rfl⟩
  · exact ⟨20, 20, by omega, by omega, rfl⟩
  · exact ⟨20, 21, by omega, by omega, rfl⟩
  · exact ⟨39, 2, by omega, by omega, rfl⟩
  · exact ⟨c1, c2, h1, h2, rfl⟩
theorem two_at (a b v : Int) (ha : 1 ≤ a ∧ a ≤ 2000) (hb : 1 ≤ b ∧ b ≤ 2000) (h : 0 ≤ v ∧ v < 2) : ∃ w : Int, (1 ≤ w ∧ w ≤ 2000) ∧ atI [D.int a, .int b] v = some (.int w) := by
  have : v = 0 ∨ v = 1 := by omega
  rcases this with rfl | rfl
  · exact ⟨a, ha, rfl⟩
  · exact ⟨b, hb, rfl⟩
abbrev lR (ns ws : List Int) (m1 m2 : Nat) (wide tall : Int) (x5 x6 x7 x8 x9 : Option D) : Rho := [some (scD ns), some (iL ws), some (.tup [.int (m1 : Int), .int (m2 : Int)]), some (.int wide), some (.int tall), x5, x6, x7, x8, x9]
theorem law_true (ns : List Int) (hl : ns.length ≤ 63) : F_law [.fz (ns.map D.int)] = .ok (.bl true) := Rs.eq (by
  refine rs_run ?_
  unfold Fb_law
  show Ss (seqF _ _ [some (scD ns), none, none, none, none, none, none, none, none, none]) _ _ _ _ _
  refine ss_seq (ss_cut (fun z => ∃ v0 v1 v2 v3 v4 v5 v6 v7 v8, z = [some (scD ns), some (iL [v0, v1, v2, v3, v4, v5, v6, v7, v8]), none, none, none, none, none, none, none, none] ∧ Fit [v0, v1, v2, v3, v4, v5, v6, v7, v8] [9, 24, 24, 7, 7, 2, 2, 46, 5]) ?_ ?_)
  · array_get_dec
    refine Rs.of (cell_eq ns 0) ?_
    array_get_dec
    refine row_of _ [9, 24, 24, 7, 7, 2, 2, 46, 5] ?_ (by decide) fun vs hf => ?_
    · intro l hl
      simp only [List.mem_cons, List.not_mem_nil, or_false] at hl
      omega
    have hg := hf
    obtain ⟨v0, _, rfl, a0, b0, hg⟩ := hg.cons
    obtain ⟨v1, _, rfl, a1, b1, hg⟩ := hg.cons
    obtain ⟨v2, _, rfl, a2, b2, hg⟩ := hg.cons
    obtain ⟨v3, _, rfl, a3, b3, hg⟩ := hg.cons
    obtain ⟨v4, _, rfl, a4, b4, hg⟩ := hg.cons
    obtain ⟨v5, _, rfl, a5, b5, hg⟩ := hg.cons
    obtain ⟨v6, _, rfl, a6, b6, hg⟩ := hg.cons
    obtain ⟨v7, _, rfl, a7, b7, hg⟩ := hg.cons
    obtain ⟨v8, _, rfl, a8, b8, hg⟩ := hg.cons
    cases hg.nil
    exact ⟨_, _, _, _, _, _, _, _, _, rfl, hf⟩
  rintro _ ⟨v0, v1, v2, v3, v4, v5, v6, v7, v8, rfl, hf⟩
  obtain ⟨a0, b0, hf⟩ := hf
  obtain ⟨a1, b1, hf⟩ := hf
  obtain ⟨a2, b2, hf⟩ := hf
  obtain ⟨a3, b3, hf⟩ := hf
  obtain ⟨a4, b4, hf⟩ := hf
  obtain ⟨a5, b5, hf⟩ := hf
  obtain ⟨a6, b6, hf⟩ := hf
  obtain ⟨a7, b7, hf⟩ := hf
  obtain ⟨a8, b8, _⟩ := hf
  obtain ⟨c1, rfl⟩ : ∃ m : Nat, v1 = (m : Int) := ⟨v1.toNat, by omega⟩
  obtain ⟨c2, rfl⟩ : ∃ m : Nat, v2 = (m : Int) := ⟨v2.toNat, by omega⟩
  obtain ⟨c3, rfl⟩ : ∃ m : Nat, v3 = (m : Int) := ⟨v3.toNat, by omega⟩
  obtain ⟨c4, rfl⟩ : ∃ m : Nat, v4 = (m : Int) := ⟨v4.toNat, by omega⟩
  obtain ⟨c7, rfl⟩ : ∃ m : Nat, v7 = (m : Int) := ⟨v7.toNat, by omega⟩
  obtain ⟨c8, rfl⟩ : ∃ m : Nat, v8 = (m : Int) := ⟨v8.toNat, by omega⟩
  obtain ⟨ws, hws⟩ : ∃ ws, ws = [v0, (c1 : Int), (c2 : Int), (c3 : Int), (c4 : Int), v5, v6, (c7 : Int), (c8 : Int)] := ⟨_, rfl⟩
  have j0 : atI (ws.map D.int) 0 = some (.int v0) := by rw [hws]; rfl
  have j1 : atI (ws.map D.int) 1 = some (.int (c1 : Int)) := by rw [hws]; rfl
  have j2 : atI (ws.map D.int) 2 = some (.int (c2 : Int)) := by rw [hws]; rfl
  have j3 : atI (ws.map D.int) 3 = some (.int (c3 : Int)) := by rw [hws]; rfl
  have j4 : atI (ws.map D.int) 4 = some (.int (c4 : Int)) := by rw [hws]; rfl
  have j5 : atI (ws.map D.int) 5 = some (.int v5) := by rw [hws]; rfl
  have j6 : atI (ws.map D.int) 6 = some (.int v6) := by rw [hws]; rfl
  have j7 : atI (ws.map D.int) 7 = some (.int (c7 : Int)) := by rw [hws]; rfl
  have j8 : atI (ws.map D.int) 8 = some (.int (c8 : Int)) := by rw [hws]; rfl
  rw [← hws]
  clear hws
  obtain ⟨m1, m2, hm1, hm2, hsz⟩ := sizes_at v0 c1 c2 a0 (by omega) (by omega)
  refine ss_seq (ss_cut (fun z => z = [some (scD ns), some (iL ws), some (.tup [.int (m1 : Int), .int (m2 : Int)]), none, none, none, none, none, none, none]) ?_ ?_)
  · array_get_dec
    rfl
  rintro _ rfl
  obtain ⟨wide, hw, hwa⟩ := two_at 4 2000 v5 (by omega) (by omega) ⟨a5, b5⟩
  obtain ⟨tall, ht, hta⟩ := two_at 2 2000 v6 (by omega) (by omega) ⟨a6, b6⟩
  refine ss_seq (ss_cut (fun z => z = lR ns ws m1 m2 wide tall none none none none none) ?_ ?_)
  · array_get_dec
    rfl
  rintro _ rfl
  refine ss_seq (ss_cut (fun z => ∃ xs, z = lR ns ws m1 m2 wide tall (some (bL xs)) none none none none ∧ Dr xs) ?_ ?_)
  · array_get_dec
    refine (cells_sp ns 1).imp ?_
    rintro d ⟨cs, rfl, hc⟩
    array_get_dec
    refine (blocks_sp cs m1 c3 wide tall hc (by omega) hw ht).imp ?_
    rintro d ⟨xs, left, rfl, hk⟩
    exact ⟨xs, rfl, hk.b, Nat.le_trans hk.p hm1, by have := hk.f; omega⟩
  rintro _ ⟨xs, rfl, dx⟩
  refine ss_seq (ss_cut (fun z => ∃ ys, z = lR ns ws m1 m2 wide tall (some (bL xs)) (some (bL ys)) none none none ∧ Dr ys) ?_ ?_)
  · array_get_dec
    refine (cells_sp ns 9).imp ?_
    rintro d ⟨cs, rfl, hc⟩
    array_get_dec
    refine (blocks_sp cs m2 c4 wide tall hc (by omega) hw ht).imp ?_
    rintro d ⟨ys, left, rfl, hk⟩
    exact ⟨ys, rfl, hk.b, Nat.le_trans hk.p hm2, by have := hk.f; omega⟩
  rintro _ ⟨ys, rfl, dy⟩
  have lx := dx.gb.len
  have ly := dy.gb.len
  have h4 : ∀ zs ∈ [[], xs, ys, xs ++ ys], GB zs := fun zs hz => by
    simp only [List.mem_cons, List.not_mem_nil, or_false] at hz
    rcases hz with rfl | rfl | rfl | rfl
    · exact w_nil.gb
    · exact dx.gb
    · exact dy.gb
    · exact dx.app dy
  refine ss_seq (ss_cut (fun z => ∃ x7 x8, z = lR ns ws m1 m2 wide tall (some (bL xs)) (some (bL ys)) x7 x8 none) ?_ ?_)
  · refine ss_each bL [[], xs, ys, xs ++ ys] (fun i z => ∃ x7 x8, z = lR ns ws m1 m2 wide tall (some (bL xs)) (some (bL ys)) x7 x8 none) ?_ ⟨none, none, rfl⟩ ?_ ?_
    · refine rs_lst (rs_cons (rs_lst (rs_nil ⟨Nat.le_of_ble_eq_true rfl, rs_cons (rs_var rfl (rs_cons (rs_var rfl (rs_cons (rs_joined (by omega) (by omega) rfl rfl (rs_nil ⟨Nat.le_of_ble_eq_true rfl, ?_⟩))))))⟩)))
      rfl
    · rintro i zs z hi ⟨x7, x8, rfl⟩
      have hg := h4 zs (List.mem_of_getElem? hi)
      show Ss (Lp_law_1 (lR ns ws m1 m2 wide tall (some (bL xs)) (some (bL ys)) (some (bL zs)) x8 none)) _ _ _ _ _
      unfold Lp_law_1
      refine ss_seq (ss_cut (fun z => z = lR ns ws m1 m2 wide tall (some (bL xs)) (some (bL ys)) (some (bL zs)) (some (.int (dueN zs : Int))) none) ?_ ?_)
      · exact ss_set (rs_due hg (rs_var rfl rfl) rfl)
      rintro _ rfl
      by_cases hd : dueN zs = 0
      · refine ss_seq (ss_cut (fun z => z = lR ns ws m1 m2 wide tall (some (bL xs)) (some (bL ys)) (some (bL zs)) (some (.int (dueN zs : Int))) none) ?_ ?_)
        · refine ss_if (rs_andc (rs_T (rs_op (rs_var rfl (rs_c (rs_gt (rs_asB ⟨fun c => absurd (of_decide_eq_true c) (by omega), fun _ => ?_⟩)))))))
          exact ⟨fun c => (by cases c), fun _ => ss_nx rfl⟩
        rintro _ rfl
        refine ss_if (rs_andc (rs_T (rs_op (rs_var rfl (rs_c (rs_eqI (rs_asB ⟨fun _ => ?_, fun c => absurd (of_decide_eq_false c) (by omega)⟩)))))))
        refine rs_not (rs_T (rs_call (rs_cons (rs_var rfl (rs_nil (Rs.of (copied_eq (hg.wok hd)) (rs_asB ?_)))))))
        exact ⟨fun c => (by cases c), fun _ => ss_nx ⟨_, _, rfl⟩⟩
      · refine ss_seq (ss_cut (fun z => z = lR ns ws m1 m2 wide tall (some (bL xs)) (some (bL ys)) (some (bL zs)) (some (.int (dueN zs : Int))) none) ?_ ?_)
        · refine ss_if (rs_andc (rs_T (rs_op (rs_var rfl (rs_c (rs_gt (rs_asB ⟨fun _ => ?_, fun c => absurd (of_decide_eq_false c) (by omega)⟩)))))))
          refine rs_not (rs_T (rs_call (rs_cons (rs_var rfl (rs_cons (rs_var rfl (rs_nil (Rs.of (refused_eq zs hg hd) (rs_asB ?_)))))))))
          exact ⟨fun c => (by cases c), fun _ => ss_nx rfl⟩
        rintro _ rfl
        refine ss_if (rs_andc (rs_T (rs_op (rs_var rfl (rs_c (rs_eqI (rs_asB ⟨fun c => absurd (of_decide_eq_true c) (by omega), fun _ => ?_⟩)))))))
        exact ⟨fun c => (by cases c), fun _ => ss_nx ⟨_, _, rfl⟩⟩
    · rintro z hz
      exact hz
  rintro _ ⟨x7, x8, rfl⟩
  refine ss_seq (ss_cut (fun z => z = lR ns ws m1 m2 wide tall (some (bL xs)) (some (bL ys)) x7 x8 none) ?_ ?_)
  · exact ss_if (rs_not (rs_showsB w_nil (Rs.of ginit0 rfl) (rs_lst (rs_nil ⟨Nat.le_of_ble_eq_true rfl, rfl⟩)) ⟨fun c => (by cases c), fun _ => ss_nx rfl⟩))
  rintro _ rfl
  by_cases hd : dueN xs = 0 ∧ dueN ys = 0
  · have wx := dx.gb.wok hd.1
    have wy := dy.gb.wok hd.2
    refine ss_seq (ss_cut (fun z => z = lR ns ws m1 m2 wide tall (some (bL xs)) (some (bL ys)) x7 x8 none) ?_ ?_)
    · refine ss_if (rs_or (rs_T (rs_op (rs_due dx.gb (rs_var rfl rfl) (rs_c (rs_gt (rs_asB (rs_T (rs_op (rs_due dy.gb (rs_var rfl rfl) (rs_c (rs_gt (rs_asB ?_)))))))))))))
      rw [hd.1, hd.2]
      exact ⟨fun c => (by cases c), fun _ => ss_nx rfl⟩
    rintro _ rfl
    refine ss_seq (ss_cut (fun z => ∃ x9, z = lR ns ws m1 m2 wide tall (some (bL xs)) (some (bL ys)) x7 x8 x9) ?_ ?_)
    · refine ss_if (rs_T (rs_op (rs_call (rs_cons (rs_var rfl (rs_nil (rs_lenL (rs_c (rs_gt (rs_asB ⟨fun c => ?_, fun _ => ss_nx ⟨_, rfl⟩⟩))))))))))
      have hpos : 0 < xs.length := by
        have := of_decide_eq_true c
        rw [List.length_map] at this
        omega
      obtain ⟨cs, e, wc, hne⟩ := near_eq wx (a := c7 % xs.length) (k := c8) (Nat.mod_lt _ hpos) (by omega)
      refine ss_seq (ss_cut (fun z => z = lR ns ws m1 m2 wide tall (some (bL xs)) (some (bL ys)) x7 x8 (some (bL cs))) ?_ ?_)
      · refine ss_set (rs_call (rs_cons (rs_var rfl (rs_cons (rs_op (rs_call (rs_cons (rs_op (rs_var rfl (rs_c (rs_ixL j7 (rs_nil (rs_int (rs_call (rs_cons (rs_var rfl (rs_nil (rs_lenL ?_))))))))))))))))))
        rw [List.length_map]
        refine rs_mod (by omega) (rs_cons (rs_op (rs_var rfl (rs_c (rs_ixL j8 (rs_nil ?_))))))
        rw [← Int.natCast_emod]
        exact Rs.of e rfl
      rintro _ rfl
      refine ss_if (rs_not (rs_T (rs_call (rs_cons (rs_call (rs_cons (rs_var rfl (rs_nil (Rs.of (ginit cs wc) (rs_cons (rs_made wx rfl (rs_cons (rs_c (rs_nil ?_))))))))))))))
      refine Rs.of (equal_eq (geq (eqN (pl_bL cs) (pl_bL xs) (by decide) rfl hne)) (.inl (clsG _))) (rs_asB ?_)
      exact ⟨fun c => (by cases c), fun _ => ss_nx ⟨_, rfl⟩⟩
    rintro _ ⟨x9, rfl⟩
    exact ss_ret (rs_call (rs_cons (rs_var rfl (rs_cons (rs_var rfl (rs_nil (Rs.of (joins_eq wx wy) rfl)))))))
  · refine ss_seq (ss_if (rs_or (rs_T (rs_op (rs_due dx.gb (rs_var rfl rfl) (rs_c (rs_gt (rs_asB (rs_T (rs_op (rs_due dy.gb (rs_var rfl rfl) (rs_c (rs_gt (rs_asB ?_))))))))))))))
    refine ⟨fun _ => ss_ret (rs_c rfl), fun c => ?_⟩
    exfalso
    rw [Bool.or_eq_false_iff, decide_eq_false_iff_not, decide_eq_false_iff_not] at c
    exact hd ⟨by omega, by omega⟩)
end
end Lk
end S_MM_base
section S_P_walk
set_option Elab.async false
set_option linter.all false
set_option maxRecDepth 100000
set_option maxHeartbeats 4000000
namespace Lk
open PySem L2 Dx
def topS (i : Nat) : Stmt := PySem.Challenge.pw_laidforall_k34_galleys.main.body.getD i (.Pass ⟨0, 0, 0, 0⟩)
abbrev s_pieces_in : Stmt := topS 7
theorem sc_pieces_in : FnScope ["blocks", "block", "piece"] ["blocks"] (defScope s_pieces_in) := ⟨rfl, rfl, rfl, by decide +kernel, rfl, by decide +kernel, by decide +kernel⟩
abbrev s_figures_in : Stmt := topS 8
theorem sc_figures_in : FnScope ["blocks", "piece", "height"] ["blocks"] (defScope s_figures_in) := ⟨rfl, rfl, rfl, by decide +kernel, rfl, by decide +kernel, by decide +kernel⟩
abbrev s_spans_in : Stmt := topS 9
theorem sc_spans_in : FnScope ["blocks", "spans", "at", "block", "start", "end"] ["blocks"] (defScope s_spans_in) := ⟨rfl, rfl, rfl, by decide +kernel, rfl, by decide +kernel, by decide +kernel⟩
abbrev s_Galley_init : Stmt := inClass (topS 10) 0
theorem sc_Galley_init : FnScope ["self", "blocks", "pieces", "figures"] ["self", "blocks"] (defScope s_Galley_init) := ⟨rfl, rfl, rfl, by decide +kernel, rfl, by decide +kernel, by decide +kernel⟩
abbrev s_Galley_len : Stmt := inClass (topS 10) 1
theorem sc_Galley_len : FnScope ["self"] ["self"] (defScope s_Galley_len) := ⟨rfl, rfl, rfl, by decide +kernel, rfl, by decide +kernel, by decide +kernel⟩
abbrev s_Galley_eq : Stmt := inClass (topS 10) 3
theorem sc_Galley_eq : FnScope ["self", "other"] ["self", "other"] (defScope s_Galley_eq) := ⟨rfl, rfl, rfl, by decide +kernel, rfl, by decide +kernel, by decide +kernel⟩
abbrev s_Galley_add : Stmt := inClass (topS 10) 4
theorem sc_Galley_add : FnScope ["self", "other"] ["self", "other"] (defScope s_Galley_add) := ⟨rfl, rfl, rfl, by decide +kernel, rfl, by decide +kernel, by decide +kernel⟩
abbrev s_Galley_iadd : Stmt := inClass (topS 10) 5
theorem sc_Galley_iadd : FnScope ["self", "other", "joined"] ["self", "other"] (defScope s_Galley_iadd) := ⟨rfl, rfl, rfl, by decide +kernel, rfl, by decide +kernel, by decide +kernel⟩
abbrev s_Galley_pieces : Stmt := inClass (topS 10) 6
theorem sc_Galley_pieces : FnScope ["self"] ["self"] (defScope s_Galley_pieces) := ⟨rfl, rfl, rfl, by decide +kernel, rfl, by decide +kernel, by decide +kernel⟩
abbrev s_Galley_figures : Stmt := inClass (topS 10) 7
theorem sc_Galley_figures : FnScope ["self"] ["self"] (defScope s_Galley_figures) := ⟨rfl, rfl, rfl, by decide +kernel, rfl, by decide +kernel, by decide +kernel⟩
abbrev s_Galley_block_at : Stmt := inClass (topS 10) 8
theorem sc_Galley_block_at : FnScope ["self", "piece"] ["self", "piece"] (defScope s_Galley_block_at) := ⟨rfl, rfl, rfl, by decide +kernel, rfl, by decide +kernel, by decide +kernel⟩
abbrev s_l_cell : Stmt := topS 12
theorem sc_l_cell : FnScope ["_law_script", "_law_k"] ["_law_script", "_law_k"] (defScope s_l_cell) := ⟨rfl, rfl, rfl, by decide +kernel, rfl, by decide +kernel, by decide +kernel⟩
abbrev s_l_row : Stmt := topS 13
theorem sc_l_row : FnScope ["_law_cell_here", "_law_limits", "_law_row_here", "_law_rest", "_law_limit", "_law_k", "_law_mixed"] ["_law_cell_here", "_law_limits"] (defScope s_l_row) := ⟨rfl, rfl, rfl, by decide +kernel, rfl, by decide +kernel, by decide +kernel⟩
abbrev s_l_number : Stmt := topS 14
theorem sc_l_number : FnScope ["_law_value"] ["_law_value"] (defScope s_l_number) := ⟨rfl, rfl, rfl, by decide +kernel, rfl, by decide +kernel, by decide +kernel⟩
abbrev s_l_same : Stmt := topS 15
theorem sc_l_same : FnScope ["_law_one", "_law_two", "_law_k"] ["_law_one", "_law_two"] (defScope s_l_same) := ⟨rfl, rfl, rfl, by decide +kernel, rfl, by decide +kernel, by decide +kernel⟩
abbrev s_l_made_piece : Stmt := topS 16
theorem sc_l_made_piece : FnScope ["_law_row_here", "_law_last", "_law_left", "_law_tall", "_law_tie", "_law_notes", "_law_calls"] ["_law_row_here", "_law_last", "_law_left", "_law_tall"] (defScope s_l_made_piece) := ⟨rfl, rfl, rfl, by decide +kernel, rfl, by decide +kernel, by decide +kernel⟩
abbrev s_l_made_blocks : Stmt := topS 17
theorem sc_l_made_blocks : FnScope ["_law_cells", "_law_many", "_law_cap", "_law_wide", "_law_tall", "_law_limits", "_law_k", "_law_made", "_law_count", "_law_left", "_law_turn", "_law_cell_here", "_law_row_here", "_law_size", "_law_pieces", "_law_piece"] ["_law_cells", "_law_many", "_law_cap", "_law_wide", "_law_tall"] (defScope s_l_made_blocks) := ⟨rfl, rfl, rfl, by decide +kernel, rfl, by decide +kernel, by decide +kernel⟩
abbrev s_l_cells_from : Stmt := topS 18
theorem sc_l_cells_from : FnScope ["_law_script", "_law_at", "_law_k"] ["_law_script", "_law_at"] (defScope s_l_cells_from) := ⟨rfl, rfl, rfl, by decide +kernel, rfl, by decide +kernel, by decide +kernel⟩
abbrev s_l_due : Stmt := topS 19
theorem sc_l_due : FnScope ["_law_blocks", "_law_many", "_law_called", "_law_block", "_law_piece"] ["_law_blocks"] (defScope s_l_due) := ⟨rfl, rfl, rfl, by decide +kernel, rfl, by decide +kernel, by decide +kernel⟩
abbrev s_l_refused : Stmt := topS 20
theorem sc_l_refused : FnScope ["_law_blocks", "_law_due_here", "e", "_law_own"] ["_law_blocks", "_law_due_here"] (defScope s_l_refused) := ⟨rfl, rfl, rfl, by decide +kernel, rfl, by decide +kernel, by decide +kernel⟩
abbrev s_l_sum_refused : Stmt := topS 21
theorem sc_l_sum_refused : FnScope ["_law_first", "_law_second", "_law_due_here", "e"] ["_law_first", "_law_second", "_law_due_here"] (defScope s_l_sum_refused) := ⟨rfl, rfl, rfl, by decide +kernel, rfl, by decide +kernel, by decide +kernel⟩
abbrev s_l_added : Stmt := topS 22
theorem sc_l_added : FnScope ["_law_first", "_law_second", "_law_due_here", "e"] ["_law_first", "_law_second", "_law_due_here"] (defScope s_l_added) := ⟨rfl, rfl, rfl, by decide +kernel, rfl, by decide +kernel, by decide +kernel⟩
abbrev s_l_no_piece : Stmt := topS 23
theorem sc_l_no_piece : FnScope ["_law_galley", "_law_at", "e", "_law_own"] ["_law_galley", "_law_at"] (defScope s_l_no_piece) := ⟨rfl, rfl, rfl, by decide +kernel, rfl, by decide +kernel, by decide +kernel⟩
abbrev s_l_equal : Stmt := topS 24
theorem sc_l_equal : FnScope ["_law_one", "_law_two", "_law_due_here", "_law_told"] ["_law_one", "_law_two", "_law_due_here"] (defScope s_l_equal) := ⟨rfl, rfl, rfl, by decide +kernel, rfl, by decide +kernel, by decide +kernel⟩
abbrev s_l_shows : Stmt := topS 25
theorem sc_l_shows : FnScope ["_law_galley", "_law_blocks", "_law_spans", "_law_pieces", "_law_heights", "_law_b", "_law_start", "_law_piece", "_law_block", "_law_turn", "_law_told", "_law_calls", "_law_k", "_law_at"] ["_law_galley", "_law_blocks"] (defScope s_l_shows) := ⟨rfl, rfl, rfl, by decide +kernel, rfl, by decide +kernel, by decide +kernel⟩
abbrev s_l_copied : Stmt := topS 26
theorem sc_l_copied : FnScope ["_law_blocks", "_law_handed", "_law_galley", "_law_twin"] ["_law_blocks"] (defScope s_l_copied) := ⟨rfl, rfl, rfl, by decide +kernel, rfl, by decide +kernel, by decide +kernel⟩
abbrev s_l_next : Stmt := topS 27
theorem sc_l_next : FnScope ["_law_value"] ["_law_value"] (defScope s_l_next) := ⟨rfl, rfl, rfl, by decide +kernel, rfl, by decide +kernel, by decide +kernel⟩
abbrev s_l_near : Stmt := topS 28
theorem sc_l_near : FnScope ["_law_blocks", "_law_at", "_law_k", "_law_block", "_law_fields", "_law_pieces", "_law_last"] ["_law_blocks", "_law_at", "_law_k"] (defScope s_l_near) := ⟨rfl, rfl, rfl, by decide +kernel, rfl, by decide +kernel, by decide +kernel⟩
abbrev s_l_joins : Stmt := topS 29
theorem sc_l_joins : FnScope ["_law_one", "_law_two", "_law_first", "_law_second", "_law_held", "_law_due_here", "_law_both", "_law_bare", "_law_extra", "_law_twice", "_law_block"] ["_law_one", "_law_two"] (defScope s_l_joins) := ⟨rfl, rfl, rfl, by decide +kernel, rfl, by decide +kernel, by decide +kernel⟩
abbrev s_law : Stmt := topS 30
theorem sc_law : FnScope ["_law_script", "_law_pick", "_law_sizes", "_law_wide", "_law_tall", "_law_one", "_law_two", "_law_rows", "_law_due_here", "_law_near_here"] ["_law_script"] (defScope s_law) := ⟨rfl, rfl, rfl, by decide +kernel, rfl, by decide +kernel, by decide +kernel⟩
abbrev s_Galley_iter : Stmt := inClass (topS 10) 2
theorem sc_Galley_iter : FnScope ["self"] ["self"] (defScope s_Galley_iter) := ⟨rfl, rfl, rfl, by decide +kernel, rfl, by decide +kernel, by decide +kernel⟩
abbrev s_NoSuchNumber : Stmt := inClass (topS 3) 0
theorem sc_NoSuchNumber : FnScope ["self", "number"] ["self", "number"] (defScope s_NoSuchNumber) := ⟨rfl, rfl, rfl, by decide +kernel, rfl, by decide +kernel, by decide +kernel⟩
abbrev s_TooLarge : Stmt := inClass (topS 2) 0
theorem sc_TooLarge : FnScope ["self", "many"] ["self", "many"] (defScope s_TooLarge) := ⟨rfl, rfl, rfl, by decide +kernel, rfl, by decide +kernel, by decide +kernel⟩
structure Txt (K : PySem.W.Frag) (mg : Str → Option Value) where
  f_pieces_in : Addr
  fd_pieces_in : FuncData
  F_pieces_in : Fun K "pieces_in" "pieces_in" s_pieces_in f_pieces_in fd_pieces_in
  g_pieces_in : mg "pieces_in" = some (.ref f_pieces_in)
  b_pieces_in : L2.Binds K fd_pieces_in ["blocks"] []
  f_figures_in : Addr
  fd_figures_in : FuncData
  F_figures_in : Fun K "figures_in" "figures_in" s_figures_in f_figures_in fd_figures_in
  g_figures_in : mg "figures_in" = some (.ref f_figures_in)
  b_figures_in : L2.Binds K fd_figures_in ["blocks"] []
  f_spans_in : Addr
  fd_spans_in : FuncData
  F_spans_in : Fun K "spans_in" "spans_in" s_spans_in f_spans_in fd_spans_in
  g_spans_in : mg "spans_in" = some (.ref f_spans_in)
  b_spans_in : L2.Binds K fd_spans_in ["blocks"] []
  f_Galley_init : Addr
  fd_Galley_init : FuncData
  F_Galley_init : FunE K "__init__" "Galley.__init__" s_Galley_init f_Galley_init fd_Galley_init
  b_Galley_init : L2.Binds K fd_Galley_init ["self", "blocks"] []
  e_Galley_init : Addr
  bd_Galley_init : L2.Binds K fd_Galley_init ["self", "blocks"] [.ref e_Galley_init]
  kt_Galley_init : ∀ {cm : CM} (S : Hp), Rp K cm S (.ref e_Galley_init) (.kt [])
  f_Galley_len : Addr
  fd_Galley_len : FuncData
  F_Galley_len : Fun K "__len__" "Galley.__len__" s_Galley_len f_Galley_len fd_Galley_len
  b_Galley_len : L2.Binds K fd_Galley_len ["self"] []
  f_Galley_eq : Addr
  fd_Galley_eq : FuncData
  F_Galley_eq : Fun K "__eq__" "Galley.__eq__" s_Galley_eq f_Galley_eq fd_Galley_eq
  b_Galley_eq : L2.Binds K fd_Galley_eq ["self", "other"] []
  f_Galley_add : Addr
  fd_Galley_add : FuncData
  F_Galley_add : Fun K "__add__" "Galley.__add__" s_Galley_add f_Galley_add fd_Galley_add
  b_Galley_add : L2.Binds K fd_Galley_add ["self", "other"] []
  f_Galley_iadd : Addr
  fd_Galley_iadd : FuncData
  F_Galley_iadd : Fun K "__iadd__" "Galley.__iadd__" s_Galley_iadd f_Galley_iadd fd_Galley_iadd
  b_Galley_iadd : L2.Binds K fd_Galley_iadd ["self", "other"] []
  f_Galley_pieces : Addr
  fd_Galley_pieces : FuncData
  F_Galley_pieces : Fun K "pieces" "Galley.pieces" s_Galley_pieces f_Galley_pieces fd_Galley_pieces
  b_Galley_pieces : L2.Binds K fd_Galley_pieces ["self"] []
  f_Galley_figures : Addr
  fd_Galley_figures : FuncData
  F_Galley_figures : Fun K "figures" "Galley.figures" s_Galley_figures f_Galley_figures fd_Galley_figures
  b_Galley_figures : L2.Binds K fd_Galley_figures ["self"] []
  f_Galley_block_at : Addr
  fd_Galley_block_at : FuncData
  F_Galley_block_at : Fun K "block_at" "Galley.block_at" s_Galley_block_at f_Galley_block_at fd_Galley_block_at
  b_Galley_block_at : L2.Binds K fd_Galley_block_at ["self", "piece"] []
  f_l_cell : Addr
  fd_l_cell : FuncData
  F_l_cell : Fun K "_law_cell" "_law_cell" s_l_cell f_l_cell fd_l_cell
  g_l_cell : mg "_law_cell" = some (.ref f_l_cell)
  b_l_cell : L2.Binds K fd_l_cell ["_law_script", "_law_k"] []
  f_l_row : Addr
  fd_l_row : FuncData
  F_l_row : Fun K "_law_row" "_law_row" s_l_row f_l_row fd_l_row
  g_l_row : mg "_law_row" = some (.ref f_l_row)
  b_l_row : L2.Binds K fd_l_row ["_law_cell_here", "_law_limits"] []
  f_l_number : Addr
  fd_l_number : FuncData
  F_l_number : Fun K "_law_number" "_law_number" s_l_number f_l_number fd_l_number
  g_l_number : mg "_law_number" = some (.ref f_l_number)
  b_l_number : L2.Binds K fd_l_number ["_law_value"] []
  f_l_same : Addr
  fd_l_same : FuncData
  F_l_same : Fun K "_law_same" "_law_same" s_l_same f_l_same fd_l_same
  g_l_same : mg "_law_same" = some (.ref f_l_same)
  b_l_same : L2.Binds K fd_l_same ["_law_one", "_law_two"] []
  f_l_made_piece : Addr
  fd_l_made_piece : FuncData
  F_l_made_piece : Fun K "_law_made_piece" "_law_made_piece" s_l_made_piece f_l_made_piece fd_l_made_piece
  g_l_made_piece : mg "_law_made_piece" = some (.ref f_l_made_piece)
  b_l_made_piece : L2.Binds K fd_l_made_piece ["_law_row_here", "_law_last", "_law_left", "_law_tall"] []
  f_l_made_blocks : Addr
  fd_l_made_blocks : FuncData
  F_l_made_blocks : Fun K "_law_made_blocks" "_law_made_blocks" s_l_made_blocks f_l_made_blocks fd_l_made_blocks
  g_l_made_blocks : mg "_law_made_blocks" = some (.ref f_l_made_blocks)
  b_l_made_blocks : L2.Binds K fd_l_made_blocks ["_law_cells", "_law_many", "_law_cap", "_law_wide", "_law_tall"] []
  f_l_cells_from : Addr
  fd_l_cells_from : FuncData
  F_l_cells_from : Fun K "_law_cells_from" "_law_cells_from" s_l_cells_from f_l_cells_from fd_l_cells_from
  g_l_cells_from : mg "_law_cells_from" = some (.ref f_l_cells_from)
  b_l_cells_from : L2.Binds K fd_l_cells_from ["_law_script", "_law_at"] []
  f_l_due : Addr
  fd_l_due : FuncData
  F_l_due : Fun K "_law_due" "_law_due" s_l_due f_l_due fd_l_due
  g_l_due : mg "_law_due" = some (.ref f_l_due)
  b_l_due : L2.Binds K fd_l_due ["_law_blocks"] []
  f_l_refused : Addr
  fd_l_refused : FuncData
  F_l_refused : Fun K "_law_refused" "_law_refused" s_l_refused f_l_refused fd_l_refused
  g_l_refused : mg "_law_refused" = some (.ref f_l_refused)
  b_l_refused : L2.Binds K fd_l_refused ["_law_blocks", "_law_due_here"] []
  f_l_sum_refused : Addr
  fd_l_sum_refused : FuncData
  F_l_sum_refused : Fun K "_law_sum_refused" "_law_sum_refused" s_l_sum_refused f_l_sum_refused fd_l_sum_refused
  g_l_sum_refused : mg "_law_sum_refused" = some (.ref f_l_sum_refused)
  b_l_sum_refused : L2.Binds K fd_l_sum_refused ["_law_first", "_law_second", "_law_due_here"] []
  f_l_added : Addr
  fd_l_added : FuncData
  F_l_added : Fun K "_law_added" "_law_added" s_l_added f_l_added fd_l_added
  g_l_added : mg "_law_added" = some (.ref f_l_added)
  b_l_added : L2.Binds K fd_l_added ["_law_first", "_law_second", "_law_due_here"] []
  f_l_no_piece : Addr
  fd_l_no_piece : FuncData
  F_l_no_piece : Fun K "_law_no_piece" "_law_no_piece" s_l_no_piece f_l_no_piece fd_l_no_piece
  g_l_no_piece : mg "_law_no_piece" = some (.ref f_l_no_piece)
  b_l_no_piece : L2.Binds K fd_l_no_piece ["_law_galley", "_law_at"] []
  f_l_equal : Addr
  fd_l_equal : FuncData
  F_l_equal : Fun K "_law_equal" "_law_equal" s_l_equal f_l_equal fd_l_equal
  g_l_equal : mg "_law_equal" = some (.ref f_l_equal)
  b_l_equal : L2.Binds K fd_l_equal ["_law_one", "_law_two", "_law_due_here"] []
  f_l_shows : Addr
  fd_l_shows : FuncData
  F_l_shows : Fun K "_law_shows" "_law_shows" s_l_shows f_l_shows fd_l_shows
  g_l_shows : mg "_law_shows" = some (.ref f_l_shows)
  b_l_shows : L2.Binds K fd_l_shows ["_law_galley", "_law_blocks"] []
  f_l_copied : Addr
  fd_l_copied : FuncData
  F_l_copied : Fun K "_law_copied" "_law_copied" s_l_copied f_l_copied fd_l_copied
  g_l_copied : mg "_law_copied" = some (.ref f_l_copied)
  b_l_copied : L2.Binds K fd_l_copied ["_law_blocks"] []
  f_l_next : Addr
  fd_l_next : FuncData
  F_l_next : Fun K "_law_next" "_law_next" s_l_next f_l_next fd_l_next
  g_l_next : mg "_law_next" = some (.ref f_l_next)
  b_l_next : L2.Binds K fd_l_next ["_law_value"] []
  f_l_near : Addr
  fd_l_near : FuncData
  F_l_near : Fun K "_law_near" "_law_near" s_l_near f_l_near fd_l_near
  g_l_near : mg "_law_near" = some (.ref f_l_near)
  b_l_near : L2.Binds K fd_l_near ["_law_blocks", "_law_at", "_law_k"] []
  f_l_joins : Addr
  fd_l_joins : FuncData
  F_l_joins : Fun K "_law_joins" "_law_joins" s_l_joins f_l_joins fd_l_joins
  g_l_joins : mg "_law_joins" = some (.ref f_l_joins)
  b_l_joins : L2.Binds K fd_l_joins ["_law_one", "_law_two"] []
  f_law : Addr
  fd_law : FuncData
  F_law : Fun K "law" "law" s_law f_law fd_law
  g_law : mg "law" = some (.ref f_law)
  b_law : L2.Binds K fd_law ["_law_script"] []
  f_Galley_iter : Addr
  fd_Galley_iter : FuncData
  F_Galley_iter : Fun K "__iter__" "Galley.__iter__" s_Galley_iter f_Galley_iter fd_Galley_iter
  b_Galley_iter : L2.Binds K fd_Galley_iter ["self"] []
  n_bool : mg "bool" = none
  n_enumerate : mg "enumerate" = none
  n_int : mg "int" = none
  n_isinstance : mg "isinstance" = none
  n_iter : mg "iter" = none
  n_len : mg "len" = none
  n_list : mg "list" = none
  n_max : mg "max" = none
  n_min : mg "min" = none
  n_range : mg "range" = none
  n_str : mg "str" = none
  n_tuple : mg "tuple" = none
  t_MOST_FIGURES : Tok
  c_MOST_FIGURES : mg "MOST_FIGURES" = some (.int 4 t_MOST_FIGURES)
  t_MOST_PIECES : Tok
  c_MOST_PIECES : mg "MOST_PIECES" = some (.int 40 t_MOST_PIECES)
  a_LaidError : Addr
  g_LaidError : mg "LaidError" = some (.ref a_LaidError)
  a_NoSuchNumber : Addr
  g_NoSuchNumber : mg "NoSuchNumber" = some (.ref a_NoSuchNumber)
  a_TooLarge : Addr
  g_TooLarge : mg "TooLarge" = some (.ref a_TooLarge)
  o_NoSuchNumber : OexC K a_NoSuchNumber
  fI_NoSuchNumber : Addr
  fdI_NoSuchNumber : FuncData
  i_NoSuchNumber : PySem.W.findIn K (.ref a_NoSuchNumber) "__init__" = some (some (.ref fI_NoSuchNumber))
  ti_NoSuchNumber : PySem.W.typeIn K (.ref fI_NoSuchNumber) = some (.type "function")
  FI_NoSuchNumber : Fun K "__init__" "NoSuchNumber.__init__" s_NoSuchNumber fI_NoSuchNumber fdI_NoSuchNumber
  b_NoSuchNumber : L2.Binds K fdI_NoSuchNumber ["self", "number"] []
  no_NoSuchNumber_number : PySem.W.findIn K (.ref a_NoSuchNumber) "number" = some none
  xf_NoSuchNumber : XfC K a_NoSuchNumber
  xc_NoSuchNumber : ExcC K a_NoSuchNumber
  e_NoSuchNumber_NoSuchNumber : PySem.W.exmOne K (.ref a_NoSuchNumber) (.ref a_NoSuchNumber) = some true
  e_NoSuchNumber_TooLarge : PySem.W.exmOne K (.ref a_NoSuchNumber) (.ref a_TooLarge) = some false
  q_NoSuchNumber_LaidError : PySem.W.kitOne K (.ref a_NoSuchNumber) (.ref a_LaidError) = some true
  q_NoSuchNumber_NoSuchNumber : PySem.W.kitOne K (.ref a_NoSuchNumber) (.ref a_NoSuchNumber) = some true
  q_NoSuchNumber_TooLarge : PySem.W.kitOne K (.ref a_NoSuchNumber) (.ref a_TooLarge) = some false
  o_TooLarge : OexC K a_TooLarge
  fI_TooLarge : Addr
  fdI_TooLarge : FuncData
  i_TooLarge : PySem.W.findIn K (.ref a_TooLarge) "__init__" = some (some (.ref fI_TooLarge))
  ti_TooLarge : PySem.W.typeIn K (.ref fI_TooLarge) = some (.type "function")
  FI_TooLarge : Fun K "__init__" "TooLarge.__init__" s_TooLarge fI_TooLarge fdI_TooLarge
  b_TooLarge : L2.Binds K fdI_TooLarge ["self", "many"] []
  no_TooLarge_many : PySem.W.findIn K (.ref a_TooLarge) "many" = some none
  xf_TooLarge : XfC K a_TooLarge
  xc_TooLarge : ExcC K a_TooLarge
  e_TooLarge_NoSuchNumber : PySem.W.exmOne K (.ref a_TooLarge) (.ref a_NoSuchNumber) = some false
  e_TooLarge_TooLarge : PySem.W.exmOne K (.ref a_TooLarge) (.ref a_TooLarge) = some true
  q_TooLarge_LaidError : PySem.W.kitOne K (.ref a_TooLarge) (.ref a_LaidError) = some true
  q_TooLarge_NoSuchNumber : PySem.W.kitOne K (.ref a_TooLarge) (.ref a_NoSuchNumber) = some false
  q_TooLarge_TooLarge : PySem.W.kitOne K (.ref a_TooLarge) (.ref a_TooLarge) = some true
  a_Galley : Addr
  g_Galley : mg "Galley" = some (.ref a_Galley)
  cl_Galley : L2.Cls K a_Galley
  mk_Galley : L2.Mk K a_Galley f_Galley_init
  na_Galley_all_figures : L2.NoAttr K a_Galley "all_figures"
  na_Galley_all_pieces : L2.NoAttr K a_Galley "all_pieces"
  na_Galley_blocks : L2.NoAttr K a_Galley "blocks"
  na_Galley_spans : L2.NoAttr K a_Galley "spans"
  m_Galley___add__ : L2.Meth K a_Galley "__add__" f_Galley_add
  m_Galley___eq__ : L2.Meth K a_Galley "__eq__" f_Galley_eq
  m_Galley___iadd__ : L2.Meth K a_Galley "__iadd__" f_Galley_iadd
  m_Galley___iter__ : L2.Meth K a_Galley "__iter__" f_Galley_iter
  m_Galley___len__ : L2.Meth K a_Galley "__len__" f_Galley_len
  m_Galley_block_at : L2.Meth K a_Galley "block_at" f_Galley_block_at
  pp_Galley_figures : Addr
  pr_Galley_figures : L2.PropOf K a_Galley "figures" pp_Galley_figures f_Galley_figures
  pp_Galley_pieces : Addr
  pr_Galley_pieces : L2.PropOf K a_Galley "pieces" pp_Galley_pieces f_Galley_pieces
  nf_Galley : PySem.W.notFirst K a_Galley (.ref a_Galley) = true
  sf_Galley : PySem.W.selfFirst K a_Galley = true
  ic_Galley : IsC K a_Galley
  nt_Galley : ∀ t ∈ tyAll, PySem.W.notFirst K a_Galley (.type t) = true
def Txt.cm {K : PySem.W.Frag} {mg : Str → Option Value} (T : Txt K mg) : CM := fun n => if n = "NoSuchNumber" then some T.a_NoSuchNumber else if n = "TooLarge" then some T.a_TooLarge else if n = "Galley" then some T.a_Galley else none
section
variable {P : Program} {w : World} {K : PySem.W.Frag} {mg : Str → Option Value} {base : Heap}
theorem Txt.cm_NoSuchNumber (T : Txt K mg) : T.cm "NoSuchNumber" = some T.a_NoSuchNumber := by unfold Txt.cm; rw [if_pos rfl]
theorem Txt.cm_TooLarge (T : Txt K mg) : T.cm "TooLarge" = some T.a_TooLarge := by unfold Txt.cm; rw [if_neg (by decide), if_pos rfl]
theorem Txt.cm_Galley (T : Txt K mg) : T.cm "Galley" = some T.a_Galley := by unfold Txt.cm; rw [if_neg (by decide), if_neg (by decide), if_pos rfl]
theorem Txt.exm_NoSuchNumber (T : Txt K mg) : ∀ n C b, T.cm n = some C → isM_NoSuchNumber n = some b → PySem.W.exmOne K (.ref C) (.ref T.a_NoSuchNumber) = some b := by
  intro n C b h1 h2
  unfold Txt.cm at h1
  unfold isM_NoSuchNumber at h2
  by_cases e0 : n = "NoSuchNumber"
  · subst e0; simp at h1 h2; subst h1 h2; exact T.e_NoSuchNumber_NoSuchNumber
  by_cases e1 : n = "TooLarge"
  · subst e1; simp [e0] at h1 h2; subst h1 h2; exact T.e_TooLarge_NoSuchNumber
  simp [e0, e1] at h2
theorem Txt.xf_of_NoSuchNumber (T : Txt K mg) {C : Addr} (h : ∃ n, T.cm n = some C ∧ isM_NoSuchNumber n = some true) : XfC K C := by
  obtain ⟨n, h1, h2⟩ := h
  unfold Txt.cm at h1
  unfold isM_NoSuchNumber at h2
  by_cases e0 : n = "NoSuchNumber"
  · subst e0; simp at h1; subst h1; exact T.xf_NoSuchNumber
  by_cases e1 : n = "TooLarge"
  · subst e1; simp [e0] at h2
  simp [e0, e1] at h2
theorem Txt.xc_of_NoSuchNumber (T : Txt K mg) {C : Addr} (h : ∃ n, T.cm n = some C ∧ isM_NoSuchNumber n = some true) : ExcC K C := by
  obtain ⟨n, h1, h2⟩ := h
  unfold Txt.cm at h1
  unfold isM_NoSuchNumber at h2
  by_cases e0 : n = "NoSuchNumber"
  · subst e0; simp at h1; subst h1; exact T.xc_NoSuchNumber
  by_cases e1 : n = "TooLarge"
  · subst e1; simp [e0] at h2
  simp [e0, e1] at h2
theorem Txt.no_of_NoSuchNumber_number (T : Txt K mg) {C : Addr} (h : ∃ n, T.cm n = some C ∧ isM_NoSuchNumber n = some true) : PySem.W.findIn K (.ref C) "number" = some none := by
  obtain ⟨n, h1, h2⟩ := h
  unfold Txt.cm at h1
  unfold isM_NoSuchNumber at h2
  by_cases e0 : n = "NoSuchNumber"
  · subst e0; simp at h1; subst h1; exact T.no_NoSuchNumber_number
  by_cases e1 : n = "TooLarge"
  · subst e1; simp [e0] at h2
  simp [e0, e1] at h2
theorem Txt.exm_TooLarge (T : Txt K mg) : ∀ n C b, T.cm n = some C → isM_TooLarge n = some b → PySem.W.exmOne K (.ref C) (.ref T.a_TooLarge) = some b := by
  intro n C b h1 h2
  unfold Txt.cm at h1
  unfold isM_TooLarge at h2
  by_cases e0 : n = "NoSuchNumber"
  · subst e0; simp at h1 h2; subst h1 h2; exact T.e_NoSuchNumber_TooLarge
  by_cases e1 : n = "TooLarge"
  · subst e1; simp [e0] at h1 h2; subst h1 h2; exact T.e_TooLarge_TooLarge
  simp [e0, e1] at h2
theorem Txt.xf_of_TooLarge (T : Txt K mg) {C : Addr} (h : ∃ n, T.cm n = some C ∧ isM_TooLarge n = some true) : XfC K C := by
  obtain ⟨n, h1, h2⟩ := h
  unfold Txt.cm at h1
  unfold isM_TooLarge at h2
  by_cases e0 : n = "NoSuchNumber"
  · subst e0; simp at h2
  by_cases e1 : n = "TooLarge"
  · subst e1; simp [e0] at h1; subst h1; exact T.xf_TooLarge
  simp [e0, e1] at h2
theorem Txt.xc_of_TooLarge (T : Txt K mg) {C : Addr} (h : ∃ n, T.cm n = some C ∧ isM_TooLarge n = some true) : ExcC K C := by
  obtain ⟨n, h1, h2⟩ := h
  unfold Txt.cm at h1
  unfold isM_TooLarge at h2
  by_cases e0 : n = "NoSuchNumber"
  · subst e0; simp at h2
  by_cases e1 : n = "TooLarge"
  · subst e1; simp [e0] at h1; subst h1; exact T.xc_TooLarge
  simp [e0, e1] at h2
theorem Txt.no_of_TooLarge_many (T : Txt K mg) {C : Addr} (h : ∃ n, T.cm n = some C ∧ isM_TooLarge n = some true) : PySem.W.findIn K (.ref C) "many" = some none := by
  obtain ⟨n, h1, h2⟩ := h
  unfold Txt.cm at h1
  unfold isM_TooLarge at h2
  by_cases e0 : n = "NoSuchNumber"
  · subst e0; simp at h2
  by_cases e1 : n = "TooLarge"
  · subst e1; simp [e0] at h1; subst h1; exact T.no_TooLarge_many
  simp [e0, e1] at h2
theorem Txt.isi_LaidError (T : Txt K mg) : ∀ n C b, T.cm n = some C → isM_LaidError n = some b → PySem.W.kitOne K (.ref C) (.ref T.a_LaidError) = some b := by
  intro n C b h1 h2
  unfold Txt.cm at h1
  unfold isM_LaidError at h2
  by_cases e0 : n = "NoSuchNumber"
  · subst e0; simp at h1 h2; subst h1 h2; exact T.q_NoSuchNumber_LaidError
  by_cases e1 : n = "TooLarge"
  · subst e1; simp [e0] at h1 h2; subst h1 h2; exact T.q_TooLarge_LaidError
  simp [e0, e1] at h2
theorem Txt.isi_NoSuchNumber (T : Txt K mg) : ∀ n C b, T.cm n = some C → isM_NoSuchNumber n = some b → PySem.W.kitOne K (.ref C) (.ref T.a_NoSuchNumber) = some b := by
  intro n C b h1 h2
  unfold Txt.cm at h1
  unfold isM_NoSuchNumber at h2
  by_cases e0 : n = "NoSuchNumber"
  · subst e0; simp at h1 h2; subst h1 h2; exact T.q_NoSuchNumber_NoSuchNumber
  by_cases e1 : n = "TooLarge"
  · subst e1; simp [e0] at h1 h2; subst h1 h2; exact T.q_TooLarge_NoSuchNumber
  simp [e0, e1] at h2
theorem Txt.isi_TooLarge (T : Txt K mg) : ∀ n C b, T.cm n = some C → isM_TooLarge n = some b → PySem.W.kitOne K (.ref C) (.ref T.a_TooLarge) = some b := by
  intro n C b h1 h2
  unfold Txt.cm at h1
  unfold isM_TooLarge at h2
  by_cases e0 : n = "NoSuchNumber"
  · subst e0; simp at h1 h2; subst h1 h2; exact T.q_NoSuchNumber_TooLarge
  by_cases e1 : n = "TooLarge"
  · subst e1; simp [e0] at h1 h2; subst h1 h2; exact T.q_TooLarge_TooLarge
  simp [e0, e1] at h2
theorem ox_NoSuchNumber (T : Txt K mg) : FnOk P w K mg base (L2N.CX P w) 1 T.fI_NoSuchNumber T.fdI_NoSuchNumber ["self", "number"] (spX1 K T.a_NoSuchNumber "number") := xinit1 T.FI_NoSuchNumber sc_NoSuchNumber rfl rfl fun cdv A outer s H E => pss_one (ps_ost (pv 0) (pv 1))
theorem ox_TooLarge (T : Txt K mg) : FnOk P w K mg base (L2N.CX P w) 1 T.fI_TooLarge T.fdI_TooLarge ["self", "many"] (spX1 K T.a_TooLarge "many") := xinit1 T.FI_TooLarge sc_TooLarge rfl rfl fun cdv A outer s H E => pss_one (ps_ost (pv 0) (pv 1))
theorem ok_it_Galley (T : Txt K mg) : ItOk P w K mg base 1 T.f_Galley_iter T.a_Galley "blocks" := iter_ok T.F_Galley_iter sc_Galley_iter rfl rfl T.cl_Galley T.na_Galley_blocks T.b_Galley_iter fun cdv A outer s H E => pss_one (ps_ret (pe_callB ItX.call_iterN (by rfl) T.n_iter (by decide +kernel) (pa_cons (pe_fld (pv 0) rfl) pa_nil)))
theorem okH_l_number (T : Txt K mg) : L2H.FnH P w K mg base (L2N.CX P w) 1 T.f_l_number T.fd_l_number ["_law_value"] (spD K T.cm [false] false F_l_number)   := dokH (G' := []) (k := 0) T.F_l_number sc_l_number rfl (by decide) fun cdv A outer s H E p hr hc =>
  (ds_one (ds_ret gok0 rfl (de_and (de_isi "int" T.n_isinstance (by rfl) (by rfl) T.n_int (by decide +kernel) (db_var 0 (pv 0) (.inl (by rfl)))) (de_one (de_not (de_isi "bool" T.n_isinstance (by rfl) (by rfl) T.n_bool (by decide +kernel) (db_var 0 (pv 0) (.inl (by rfl)))))))))
theorem ok_pieces_in (T : Txt K mg) : FnOk P w K mg base (L2N.CX P w) 1 T.f_pieces_in T.fd_pieces_in ["blocks"] (spD K T.cm [true] false F_pieces_in)   := dok (G' := []) (k := 0) T.F_pieces_in sc_pieces_in rfl (by decide) fun cdv A outer s H E hr =>
  (ds_one (ds_ret gok0 rfl (de_pub (de_lc2 (G' := [.b, .v, .v]) (G2 := [.b, .v, .v]) (own := [("block", 1), ("piece", 2)]) (vs1 := [2]) rfl sc_pieces_in.nd (noOwn_of rfl) (di_borX 0 (pv 0) rfl) (blkOk_by (own := [("block", 1), ("piece", 2)]) (N := ["blocks", "block", "piece"]) (sc := defScope s_pieces_in) (by decide +kernel)) (by decide) (fun _ _ _ _ _ => (dg_more (by decide) (dg_name 1 sc_pieces_in.nd rfl (by first | exact Or.inl rfl | exact Or.inr rfl)))) (fun _ _ _ _ _ => dt_nil) (fun _ _ _ _ _ => (di_tup (de_ix (db_var 1 (pv 1) (.inl (by rfl))) (db_of de_int) (fun _ _ => rfl)))) (fun _ _ _ _ _ => (dg_name 2 sc_pieces_in.nd rfl (by first | exact Or.inl rfl | exact Or.inr rfl))) (fun _ _ _ _ _ => dt_nil) (fun _ _ _ _ _ => (de_var 2 (pv 2) rfl))))))
theorem ok_figures_in (T : Txt K mg) : FnOk P w K mg base (L2N.CX P w) 2 T.f_figures_in T.fd_figures_in ["blocks"] (spD K T.cm [true] false F_figures_in)   := dok (G' := []) (k := 1) T.F_figures_in sc_figures_in rfl (by decide) fun cdv A outer s H E hr =>
  (ds_one (ds_ret gok0 rfl (de_pub (de_lc2 (G' := [.b, .v, .v]) (G2 := [.b, .v, .v]) (own := [("piece", 1), ("height", 2)]) (vs1 := [2]) rfl sc_figures_in.nd (noOwn_of rfl) (di_list (de_callV (ok_pieces_in T) (L2N.takes_of rfl rfl rfl rfl) (hr.mono (by decide)) (by rfl) T.g_pieces_in T.F_pieces_in.kp T.b_pieces_in (dm_bor (db_var 0 (pv 0) (.inr (.inr (by rfl)))) dm_nil))) (blkOk_by (own := [("piece", 1), ("height", 2)]) (N := ["blocks", "piece", "height"]) (sc := defScope s_figures_in) (by decide +kernel)) (by decide) (fun _ _ _ _ _ => (dg_more (by decide) (dg_name 1 sc_figures_in.nd rfl (by first | exact Or.inl rfl | exact Or.inr rfl)))) (fun _ _ _ _ _ => dt_nil) (fun _ _ _ _ _ => (di_tup (de_ix (db_var 1 (pv 1) (.inl (by rfl))) (db_of de_int) (fun _ _ => rfl)))) (fun _ _ _ _ _ => (dg_name 2 sc_figures_in.nd rfl (by first | exact Or.inl rfl | exact Or.inr rfl))) (fun _ _ _ _ _ => dt_nil) (fun _ _ _ _ _ => (de_var 2 (pv 2) rfl))))))
theorem ok_spans_in (T : Txt K mg) : FnOk P w K mg base (L2N.CX P w) 1 T.f_spans_in T.fd_spans_in ["blocks"] (spD K T.cm [true] false F_spans_in)   := dok (G' := []) (k := 0) T.F_spans_in sc_spans_in rfl (by decide) fun cdv A outer s H E hr =>
  (ds_cons (ds_setO 1 gok0 (show 1 < 6 by decide) sc_spans_in.nd rfl (by first | exact Or.inl rfl | exact Or.inr rfl) (de_lst da_nil))
  (ds_cons (ds_for gok0 (passes_of rfl) rfl (di_enumB 0 T.n_enumerate (by rfl) (pv 0) rfl) (dg_tup rfl (dg_cons (dg_name 2 sc_spans_in.nd rfl (by first | exact Or.inl rfl | exact Or.inr rfl)) (dg_cons (dg_name 3 sc_spans_in.nd rfl (by first | exact Or.inl rfl | exact Or.inr rfl)) dg_nil)))
  (ds_cons (ds_set 4 gok0 sc_spans_in.nd rfl (by first | exact Or.inl rfl | exact Or.inr rfl) (de_bltn call_len cs_len (by rfl) T.n_len (by decide +kernel) (dm_bor (db_var 1 (pv 1) (.inr (.inl (by trivial)))) dm_nil)))
  (ds_cons (ds_set 5 gok0 sc_spans_in.nd rfl (by first | exact Or.inl rfl | exact Or.inr rfl) (de_op or_add os_add (db_var 4 (pv 4) (.inl (by rfl))) (db_of (de_bltn call_len cs_len (by rfl) T.n_len (by decide +kernel) (dm_bor (db_of (de_ix (db_var 3 (pv 3) (.inl (by rfl))) (db_of de_int) (fun _ _ => rfl))) dm_nil)))))
  (ds_one (ds_ext 1 gok0 rfl (pv 1) (de_op or_mulX os_mulX (db_own (de_lst (da_cons (de_tup (da_cons (de_var 2 (pv 2) rfl) (da_cons (de_var 4 (pv 4) rfl) (da_cons (de_var 5 (pv 5) rfl) da_nil)))) da_nil))) (db_of (de_bltn call_len cs_len (by rfl) T.n_len (by decide +kernel) (dm_bor (db_of (de_ix (db_var 3 (pv 3) (.inl (by rfl))) (db_of de_int) (fun _ _ => rfl))) dm_nil)))))))))
  (ds_pub 1 (ds_one (ds_ret gok0 rfl (de_var 1 (pv 1) rfl))) (.inl rfl))))
theorem ok_Galley_init (T : Txt K mg) : FnOk P w K mg base (L2N.CX P w) 3 T.f_Galley_init T.fd_Galley_init ["self", "blocks"] (spI K T.cm T.a_Galley [true] F_Galley_init)   := dokIE (k := 2) T.F_Galley_init sc_Galley_init T.cm_Galley rfl (by decide) (fun _ => rfl) fun cdv A outer s H E a hr =>
  (ds_cons (ds_par 2 3 gok0 rfl sc_Galley_init.nd rfl rfl (by decide) rfl rfl (de_callV (ok_pieces_in T) (L2N.takes_of rfl rfl rfl rfl) (hr.mono (by decide)) (by rfl) T.g_pieces_in T.F_pieces_in.kp T.b_pieces_in (dm_bor (db_var 1 (pv 1) (.inr (.inr (by rfl)))) dm_nil)) (de_callV (ok_figures_in T) (L2N.takes_of rfl rfl rfl rfl) (hr.mono (by decide)) (by rfl) T.g_figures_in T.F_figures_in.kp T.b_figures_in (dm_bor (db_var 1 (pv 1) (.inr (.inr (by rfl)))) dm_nil)) (by rfl))
  (ds_cons (ds_if gok0 (dt_cmp or_gt os_ord (db_of (de_bltn call_len cs_len (by rfl) T.n_len (by decide +kernel) (dm_bor (db_var 2 (pv 2) (.inl (by rfl))) dm_nil))) (db_of (de_c (v := .int 40) (pe_glob (by rfl) T.c_MOST_PIECES ⟨_, rfl⟩) fun _ => .int _)) (nomark _))
  (ds_one (ds_raise1 gok0 T.cm_TooLarge rfl (L2N.takes_of rfl rfl rfl rfl) T.o_TooLarge T.i_TooLarge T.ti_TooLarge T.no_TooLarge_many (ox_TooLarge T) (hr.mono (by decide)) T.b_TooLarge (by rfl) T.g_TooLarge (da_cons (de_bltn call_len cs_len (by rfl) T.n_len (by decide +kernel) (dm_bor (db_var 2 (pv 2) (.inl (by rfl))) dm_nil)) da_nil)))
  ds_nil)
  (ds_cons (ds_if gok0 (dt_cmp or_gt os_ord (db_of (de_bltn call_len cs_len (by rfl) T.n_len (by decide +kernel) (dm_bor (db_var 3 (pv 3) (.inl (by rfl))) dm_nil))) (db_of (de_c (v := .int 4) (pe_glob (by rfl) T.c_MOST_FIGURES ⟨_, rfl⟩) fun _ => .int _)) (nomark _))
  (ds_one (ds_raise1 gok0 T.cm_TooLarge rfl (L2N.takes_of rfl rfl rfl rfl) T.o_TooLarge T.i_TooLarge T.ti_TooLarge T.no_TooLarge_many (ox_TooLarge T) (hr.mono (by decide)) T.b_TooLarge (by rfl) T.g_TooLarge (da_cons (de_bltn call_len cs_len (by rfl) T.n_len (by decide +kernel) (dm_bor (db_var 3 (pv 3) (.inl (by rfl))) dm_nil)) da_nil)))
  ds_nil)
  (ds_cons (ds_fst 0 gok0 T.cm_Galley T.cl_Galley T.na_Galley_blocks trivial (pv 0) (de_pub (de_type call_list_of cs_list (by rfl) T.n_list (by decide +kernel) (dm_bor (db_var 1 (pv 1) (.inr (.inr (by rfl)))) dm_nil))))
  (ds_cons (ds_fst 0 gok0 T.cm_Galley T.cl_Galley T.na_Galley_spans trivial (pv 0) (de_callV (ok_spans_in T) (L2N.takes_of rfl rfl rfl rfl) (hr.mono (by decide)) (by rfl) T.g_spans_in T.F_spans_in.kp T.b_spans_in (dm_bor (db_var 1 (pv 1) (.inr (.inr (by rfl)))) dm_nil)))
  (ds_cons (ds_fst 0 gok0 T.cm_Galley T.cl_Galley T.na_Galley_all_pieces trivial (pv 0) (de_var 2 (pv 2) rfl))
  (ds_one (ds_fst 0 gok0 T.cm_Galley T.cl_Galley T.na_Galley_all_figures trivial (pv 0) (de_var 3 (pv 3) rfl)))))))))
theorem ok_Galley_len (T : Txt K mg) : FnOk P w K mg base (L2N.CX P w) 1 T.f_Galley_len T.fd_Galley_len ["self"] (spD K T.cm [true] false F_Galley_len)   := dok (G' := []) (k := 0) T.F_Galley_len sc_Galley_len rfl (by decide) fun cdv A outer s H E hr =>
  (ds_one (ds_ret gok0 rfl (de_bltn call_len cs_len (by rfl) T.n_len (by decide +kernel) (dm_bor (db_of (de_fld T.cm_Galley T.cl_Galley T.na_Galley_all_pieces (db_var 0 (pv 0) (.inr (.inr (by rfl)))))) dm_nil))))
theorem ok_Galley_eq (T : Txt K mg) : FnOk P w K mg base (L2N.CX P w) 1 T.f_Galley_eq T.fd_Galley_eq ["self", "other"] (spD K T.cm [true, true] false F_Galley_eq)   := dok (G' := []) (k := 0) T.F_Galley_eq sc_Galley_eq rfl (by decide) fun cdv A outer s H E hr =>
  (ds_one (ds_ret gok0 rfl (de_and (de_isO T.cm_Galley T.ic_Galley T.n_isinstance (by rfl) (by rfl) T.g_Galley (db_var 1 (pv 1) (.inr (.inr (by rfl))))) (de_one (de_cmp (or_eq hr.units) os_eq (db_of (de_fld T.cm_Galley T.cl_Galley T.na_Galley_blocks (db_var 0 (pv 0) (.inr (.inr (by rfl)))))) (db_of (de_fld T.cm_Galley T.cl_Galley T.na_Galley_blocks (db_var 1 (pv 1) (.inr (.inr (by rfl)))))) (nomark _))))))
theorem ok_Galley_add (T : Txt K mg) : FnOk P w K mg base (L2N.CX P w) 5 T.f_Galley_add T.fd_Galley_add ["self", "other"] (spD K T.cm [true, true] false F_Galley_add)   := dok (G' := []) (k := 4) T.F_Galley_add sc_Galley_add rfl (by decide) fun cdv A outer s H E hr =>
  (ds_one (ds_ret gok0 rfl (de_pub (de_make T.mk_Galley (ok_Galley_init T) (L2N.takes_of rfl rfl rfl rfl) (hr.mono (by decide)) (by rfl) T.g_Galley T.b_Galley_init (dm_bor (db_of (de_op or_add os_add (db_of (de_fld T.cm_Galley T.cl_Galley T.na_Galley_blocks (db_var 0 (pv 0) (.inr (.inr (by rfl)))))) (db_of (de_fld T.cm_Galley T.cl_Galley T.na_Galley_blocks (db_var 1 (pv 1) (.inr (.inr (by rfl)))))))) dm_nil)))))
theorem ok_Galley_iadd (T : Txt K mg) : FnOk P w K mg base (L2N.CX P w) 5 T.f_Galley_iadd T.fd_Galley_iadd ["self", "other"] (spIo K T.cm F_Galley_iadd)   := dokIo (k := 4) (N := ["self", "other", "joined"]) (G2 := (fun a => (GI a [] 3).set 2 .o)) (G3 := (fun a => (GI a [] 3).set 2 .o)) T.F_Galley_iadd sc_Galley_iadd rfl (by decide) rfl (fun _ => rfl) (fun cdv A outer s H E hr => ⟨sc_Galley_iadd.nd, rfl, (by first | exact Or.inl rfl | exact Or.inr rfl), rfl, (by first | exact Or.inl rfl | exact Or.inr rfl), (de_make T.mk_Galley (ok_Galley_init T) (L2N.takes_of rfl rfl rfl rfl) (hr.mono (by decide)) (by rfl) T.g_Galley T.b_Galley_init (dm_bor (db_of (de_op or_add os_add (db_of (de_fld T.cm_Galley T.cl_Galley T.na_Galley_blocks (db_var 0 (pv 0) (.inr (.inr (by rfl)))))) (db_of (de_fld T.cm_Galley T.cl_Galley T.na_Galley_blocks (db_var 1 (pv 1) (.inr (.inr (by rfl)))))))) dm_nil)), pv 0⟩) (fun cdv A outer s H E a hr => ⟨(ds_asgM gok0 (de_tup (da_cons (de_fld T.cm_Galley T.cl_Galley T.na_Galley_blocks (db_var 2 (pv 2) (.inr (.inl (by trivial))))) (da_cons (de_fld T.cm_Galley T.cl_Galley T.na_Galley_spans (db_var 2 (pv 2) (.inr (.inl (by trivial))))) da_nil))) (dgm_tup rfl (dgm_cons (dgm_fld 0 T.cm_Galley T.cl_Galley T.na_Galley_blocks trivial (pv 0)) (dgm_cons (dgm_fld 0 T.cm_Galley T.cl_Galley T.na_Galley_spans trivial (pv 0)) dgm_nil)))), (ds_asgM gok0 (de_tup (da_cons (de_fld T.cm_Galley T.cl_Galley T.na_Galley_all_pieces (db_var 2 (pv 2) (.inr (.inl (by trivial))))) (da_cons (de_fld T.cm_Galley T.cl_Galley T.na_Galley_all_figures (db_var 2 (pv 2) (.inr (.inl (by trivial))))) da_nil))) (dgm_tup rfl (dgm_cons (dgm_fld 0 T.cm_Galley T.cl_Galley T.na_Galley_all_pieces trivial (pv 0)) (dgm_cons (dgm_fld 0 T.cm_Galley T.cl_Galley T.na_Galley_all_figures trivial (pv 0)) dgm_nil))))⟩)
theorem ok_Galley_pieces (T : Txt K mg) : FnOk P w K mg base (L2N.CX P w) 1 T.f_Galley_pieces T.fd_Galley_pieces ["self"] (spD K T.cm [true] true F_Galley_pieces)   := dok (G' := []) (k := 0) T.F_Galley_pieces sc_Galley_pieces rfl (by decide) fun cdv A outer s H E hr =>
  (ds_one (ds_retO gok0 rfl (de_type call_list_of cs_list (by rfl) T.n_list (by decide +kernel) (dm_bor (db_of (de_fld T.cm_Galley T.cl_Galley T.na_Galley_all_pieces (db_var 0 (pv 0) (.inr (.inr (by rfl)))))) dm_nil))))
theorem ok_Galley_figures (T : Txt K mg) : FnOk P w K mg base (L2N.CX P w) 1 T.f_Galley_figures T.fd_Galley_figures ["self"] (spD K T.cm [true] true F_Galley_figures)   := dok (G' := []) (k := 0) T.F_Galley_figures sc_Galley_figures rfl (by decide) fun cdv A outer s H E hr =>
  (ds_one (ds_retO gok0 rfl (de_type call_list_of cs_list (by rfl) T.n_list (by decide +kernel) (dm_bor (db_of (de_fld T.cm_Galley T.cl_Galley T.na_Galley_all_figures (db_var 0 (pv 0) (.inr (.inr (by rfl)))))) dm_nil))))
theorem ok_Galley_block_at (T : Txt K mg) : FnOk P w K mg base (L2N.CX P w) 3 T.f_Galley_block_at T.fd_Galley_block_at ["self", "piece"] (spD K T.cm [true, false] false F_Galley_block_at)   := dok (G' := []) (k := 2) T.F_Galley_block_at sc_Galley_block_at rfl (by decide) fun cdv A outer s H E hr =>
  (ds_cons (ds_if gok0 (dt_not (dt_chain or_le os_ord or_lt os_ord (db_of de_int) (db_var 1 (pv 1) (.inl (by rfl))) (db_of (de_bltn call_len cs_len (by rfl) T.n_len (by decide +kernel) (dm_bor (db_of (de_fld T.cm_Galley T.cl_Galley T.na_Galley_spans (db_var 0 (pv 0) (.inr (.inr (by rfl)))))) dm_nil)))))
  (ds_one (ds_raise1 gok0 T.cm_NoSuchNumber rfl (L2N.takes_of rfl rfl rfl rfl) T.o_NoSuchNumber T.i_NoSuchNumber T.ti_NoSuchNumber T.no_NoSuchNumber_number (ox_NoSuchNumber T) (hr.mono (by decide)) T.b_NoSuchNumber (by rfl) T.g_NoSuchNumber (da_cons (de_var 1 (pv 1) rfl) da_nil)))
  ds_nil)
  (ds_one (ds_ret gok0 rfl (de_ix (db_of (de_fld T.cm_Galley T.cl_Galley T.na_Galley_spans (db_var 0 (pv 0) (.inr (.inr (by rfl)))))) (db_var 1 (pv 1) (.inl (by rfl))) (fun _ _ => rfl)))))
theorem ok_l_cell (T : Txt K mg) : FnOk P w K mg base (L2N.CX P w) 1 T.f_l_cell T.fd_l_cell ["_law_script", "_law_k"] (spD K T.cm [false, false] false F_l_cell)   := dok (G' := []) (k := 0) T.F_l_cell sc_l_cell rfl (by decide) fun cdv A outer s H E hr =>
  (ds_cons (ds_if gok0 (dt_cmp or_lt os_ord (db_var 1 (pv 1) (.inl (by rfl))) (db_of (de_bltn call_len cs_len (by rfl) T.n_len (by decide +kernel) (dm_bor (db_var 0 (pv 0) (.inl (by rfl))) dm_nil))) (nomark _))
  (ds_one (ds_ret gok0 rfl (de_type cr_int cs_int (by rfl) T.n_int (by decide +kernel) (dm_bor (db_of (de_ix (db_var 0 (pv 0) (.inl (by rfl))) (db_var 1 (pv 1) (.inl (by rfl))) (fun _ _ => rfl))) dm_nil))))
  ds_nil)
  (ds_one (ds_ret gok0 rfl de_int)))
theorem ok_l_row (T : Txt K mg) : FnOk P w K mg base (L2N.CX P w) 1 T.f_l_row T.fd_l_row ["_law_cell_here", "_law_limits"] (spD K T.cm [false, false] false F_l_row)   := dok (G' := []) (k := 0) T.F_l_row sc_l_row rfl (by decide) fun cdv A outer s H E hr =>
  (ds_cons (ds_setO 2 gok0 (show 2 < 7 by decide) sc_l_row.nd rfl (by first | exact Or.inl rfl | exact Or.inr rfl) (de_lst da_nil))
  (ds_cons (ds_if gok0 (dt_cmp or_ge os_ord (db_var 0 (pv 0) (.inl (by rfl))) (db_of de_int) (nomark _))
  (ds_cons (ds_set 3 gok0 sc_l_row.nd rfl (by first | exact Or.inl rfl | exact Or.inr rfl) (de_op op_sub os_sub (db_var 0 (pv 0) (.inl (by rfl))) (db_of de_int)))
  (ds_cons (ds_for gok0 (passes_of rfl) rfl (di_list (de_var 1 (pv 1) rfl)) (dg_name 4 sc_l_row.nd rfl (by first | exact Or.inl rfl | exact Or.inr rfl))
  (ds_cons (ds_app 2 gok0 rfl (pv 2) (de_op op_mod os_mod (db_of (de_type cr_int cs_int (by rfl) T.n_int (by decide +kernel) (dm_bor (db_var 3 (pv 3) (.inl (by rfl))) dm_nil))) (db_var 4 (pv 4) (.inl (by rfl)))))
  (ds_one (ds_set 3 gok0 sc_l_row.nd rfl (by first | exact Or.inl rfl | exact Or.inr rfl) (de_op or_fdiv os_fdiv (db_var 3 (pv 3) (.inl (by rfl))) (db_var 4 (pv 4) (.inl (by rfl))))))))
  (ds_pub 2 (ds_one (ds_ret gok0 rfl (de_var 2 (pv 2) rfl))) (.inl rfl))))
  ds_nil)
  (ds_cons (ds_for gok0 (passes_of rfl) rfl (di_rng1 T.n_range (by rfl) (da_cons (de_bltn call_len cs_len (by rfl) T.n_len (by decide +kernel) (dm_bor (db_var 1 (pv 1) (.inl (by rfl))) dm_nil)) da_nil)) (dg_name 5 sc_l_row.nd rfl (by first | exact Or.inl rfl | exact Or.inr rfl))
  (ds_cons (ds_set 6 gok0 sc_l_row.nd rfl (by first | exact Or.inl rfl | exact Or.inr rfl) (de_op op_mod os_mod (db_of (de_type cr_int cs_int (by rfl) T.n_int (by decide +kernel) (dm_bor (db_of (de_op or_add os_add (db_of (de_op or_add os_add (db_of (de_op or_mulX os_mulX (db_var 0 (pv 0) (.inl (by rfl))) (db_of de_int))) (db_of (de_op or_mulX os_mulX (db_var 5 (pv 5) (.inl (by rfl))) (db_of de_int))))) (db_of de_int))) dm_nil))) (db_of de_int)))
  (ds_cons (ds_set 6 gok0 sc_l_row.nd rfl (by first | exact Or.inl rfl | exact Or.inr rfl) (de_op op_mod os_mod (db_of (de_type cr_int cs_int (by rfl) T.n_int (by decide +kernel) (dm_bor (db_of (de_op or_add os_add (db_of (de_op or_add os_add (db_of (de_op or_mulX os_mulX (db_var 6 (pv 6) (.inl (by rfl))) (db_of (de_op or_add os_add (db_of de_int) (db_of (de_op or_mulX os_mulX (db_of de_int) (db_var 5 (pv 5) (.inl (by rfl))))))))) (db_of (de_op or_mulX os_mulX (db_of (de_op or_mulX os_mulX (db_var 5 (pv 5) (.inl (by rfl))) (db_var 5 (pv 5) (.inl (by rfl))))) (db_of de_int))))) (db_of de_int))) dm_nil))) (db_of de_int)))
  (ds_one (ds_app 2 gok0 rfl (pv 2) (de_op op_mod os_mod (db_of (de_type cr_int cs_int (by rfl) T.n_int (by decide +kernel) (dm_bor (db_of (de_op or_fdiv os_fdiv (db_var 6 (pv 6) (.inl (by rfl))) (db_of de_int))) dm_nil))) (db_of (de_ix (db_var 1 (pv 1) (.inl (by rfl))) (db_var 5 (pv 5) (.inl (by rfl))) (fun _ _ => rfl)))))))))
  (ds_pub 2 (ds_one (ds_ret gok0 rfl (de_var 2 (pv 2) rfl))) (.inl rfl)))))
theorem ok_l_same (T : Txt K mg) : ∀ {n : Nat}, FnOk P w K mg base (L2N.CX P w) (1 + n) T.f_l_same T.fd_l_same ["_law_one", "_law_two"] (spD K T.cm [true, true] false (F_l_same n))
  | 0 => fnok_bad
  | n + 1 => dok (G' := []) (k := 1 + n) T.F_l_same sc_l_same rfl (by decide) fun cdv A outer s H E hr => by
    have ih := fun T => ok_l_same T (n := n)
    exact (ds_cons (ds_if gok0 (dt_cmp op_isN os_is (db_var 1 (pv 1) (.inr (.inr (by rfl)))) (db_of de_non) (nomark _))
  (ds_one (ds_ret gok0 rfl (de_cmp op_isN os_is (db_var 0 (pv 0) (.inr (.inr (by rfl)))) (db_of de_non) (nomark _))))
  ds_nil)
  (ds_cons (ds_if gok0 (dt_val (de_isi "bool" T.n_isinstance (by rfl) (by rfl) T.n_bool (by decide +kernel) (db_var 1 (pv 1) (.inr (.inr (by rfl))))))
  (ds_one (ds_ret gok0 rfl (de_and (de_isi "bool" T.n_isinstance (by rfl) (by rfl) T.n_bool (by decide +kernel) (db_var 0 (pv 0) (.inr (.inr (by rfl))))) (de_one (de_cmp (or_eq hr.units) os_eq (db_var 0 (pv 0) (.inr (.inr (by rfl)))) (db_var 1 (pv 1) (.inr (.inr (by rfl)))) (nomark _))))))
  ds_nil)
  (ds_cons (ds_if gok0 (dt_val (de_isi "int" T.n_isinstance (by rfl) (by rfl) T.n_int (by decide +kernel) (db_var 1 (pv 1) (.inr (.inr (by rfl))))))
  (ds_one (ds_ret gok0 rfl (de_and (de_isi "int" T.n_isinstance (by rfl) (by rfl) T.n_int (by decide +kernel) (db_var 0 (pv 0) (.inr (.inr (by rfl))))) (de_and (de_not (de_isi "bool" T.n_isinstance (by rfl) (by rfl) T.n_bool (by decide +kernel) (db_var 0 (pv 0) (.inr (.inr (by rfl)))))) (de_one (de_cmp (or_eq hr.units) os_eq (db_var 0 (pv 0) (.inr (.inr (by rfl)))) (db_var 1 (pv 1) (.inr (.inr (by rfl)))) (nomark _)))))))
  ds_nil)
  (ds_cons (ds_if gok0 (dt_val (de_isi "str" T.n_isinstance (by rfl) (by rfl) T.n_str (by decide +kernel) (db_var 1 (pv 1) (.inr (.inr (by rfl))))))
  (ds_one (ds_ret gok0 rfl (de_and (de_isi "str" T.n_isinstance (by rfl) (by rfl) T.n_str (by decide +kernel) (db_var 0 (pv 0) (.inr (.inr (by rfl))))) (de_one (de_cmp (or_eq hr.units) os_eq (db_var 0 (pv 0) (.inr (.inr (by rfl)))) (db_var 1 (pv 1) (.inr (.inr (by rfl)))) (nomark _))))))
  ds_nil)
  (ds_cons (ds_if gok0 (PW.pt (dw_and (dt_val (de_isi "tuple" T.n_isinstance (by rfl) (by rfl) T.n_tuple (by decide +kernel) (db_var 1 (pv 1) (.inr (.inr (by rfl)))))) (dw_and1 (dt_not (dt_val (de_isi "tuple" T.n_isinstance (by rfl) (by rfl) T.n_tuple (by decide +kernel) (db_var 0 (pv 0) (.inr (.inr (by rfl))))))))))
  (ds_one (ds_ret gok0 rfl de_bl))
  ds_nil)
  (ds_cons (ds_if gok0 (PW.pt (dw_and (dt_val (de_isi "list" T.n_isinstance (by rfl) (by rfl) T.n_list (by decide +kernel) (db_var 1 (pv 1) (.inr (.inr (by rfl)))))) (dw_and1 (dt_not (dt_val (de_isi "list" T.n_isinstance (by rfl) (by rfl) T.n_list (by decide +kernel) (db_var 0 (pv 0) (.inr (.inr (by rfl))))))))))
  (ds_one (ds_ret gok0 rfl de_bl))
  ds_nil)
  (ds_cons (ds_if gok0 (PW.pt (dw_or (dt_val (de_isi "tuple" T.n_isinstance (by rfl) (by rfl) T.n_tuple (by decide +kernel) (db_var 1 (pv 1) (.inr (.inr (by rfl)))))) (dw_or1 (dt_val (de_isi "list" T.n_isinstance (by rfl) (by rfl) T.n_list (by decide +kernel) (db_var 1 (pv 1) (.inr (.inr (by rfl)))))))))
  (ds_cons (ds_if gok0 (dt_cmp (or_ne hr.units) os_ne (db_of (de_bltn call_len cs_len (by rfl) T.n_len (by decide +kernel) (dm_bor (db_var 0 (pv 0) (.inr (.inr (by rfl)))) dm_nil))) (db_of (de_bltn call_len cs_len (by rfl) T.n_len (by decide +kernel) (dm_bor (db_var 1 (pv 1) (.inr (.inr (by rfl)))) dm_nil))) (nomark _))
  (ds_one (ds_ret gok0 rfl de_bl))
  ds_nil)
  (ds_cons (ds_for gok0 (passes_of rfl) rfl (di_rng1 T.n_range (by rfl) (da_cons (de_bltn call_len cs_len (by rfl) T.n_len (by decide +kernel) (dm_bor (db_var 1 (pv 1) (.inr (.inr (by rfl)))) dm_nil)) da_nil)) (dg_name 2 sc_l_same.nd rfl (by first | exact Or.inl rfl | exact Or.inr rfl))
  (ds_one (ds_if gok0 (dt_not (dt_val (de_callV (ih T) (L2N.takes_of rfl rfl rfl rfl) hr (by rfl) T.g_l_same T.F_l_same.kp T.b_l_same (dm_bor (db_of (de_ix (db_var 0 (pv 0) (.inr (.inr (by rfl)))) (db_var 2 (pv 2) (.inl (by rfl))) (fun _ _ => rfl))) (dm_bor (db_of (de_ix (db_var 1 (pv 1) (.inr (.inr (by rfl)))) (db_var 2 (pv 2) (.inl (by rfl))) (fun _ _ => rfl))) dm_nil)))))
  (ds_one (ds_ret gok0 rfl de_bl))
  ds_nil)))
  (ds_one (ds_ret gok0 rfl de_bl))))
  ds_nil)
  (ds_one (ds_ret gok0 rfl de_bl)))))))))
theorem ok_l_made_piece (T : Txt K mg) : FnOk P w K mg base (L2N.CX P w) 1 T.f_l_made_piece T.fd_l_made_piece ["_law_row_here", "_law_last", "_law_left", "_law_tall"] (spD K T.cm [false, false, false, false] false F_l_made_piece)   := dok (G' := []) (k := 0) T.F_l_made_piece sc_l_made_piece rfl (by decide) fun cdv A outer s H E hr =>
  (ds_cons (ds_set 4 gok0 sc_l_made_piece.nd rfl (by first | exact Or.inl rfl | exact Or.inr rfl) (de_tup (da_cons (de_strL (by decide +kernel)) (da_cons (de_ix (db_var 0 (pv 0) (.inl (by rfl))) (db_of de_int) (fun _ _ => rfl)) da_nil))))
  (ds_cons (ds_if gok0 (dt_tru (db_var 1 (pv 1) (.inl (by rfl))) (by intro _; rfl))
  (ds_one (ds_set 4 gok0 sc_l_made_piece.nd rfl (by first | exact Or.inl rfl | exact Or.inr rfl) (de_tup (da_cons (de_strL (by decide +kernel)) da_nil))))
  (ds_one (ds_if gok0 (dt_cmp (or_eq hr.units) os_eq (db_of (de_ix (db_var 0 (pv 0) (.inl (by rfl))) (db_of de_int) (fun _ _ => rfl))) (db_of de_int) (nomark _))
  (ds_one (ds_set 4 gok0 sc_l_made_piece.nd rfl (by first | exact Or.inl rfl | exact Or.inr rfl) (de_tup (da_cons (de_strL (by decide +kernel)) (da_cons (de_ix (db_var 0 (pv 0) (.inl (by rfl))) (db_of de_int) (fun _ _ => rfl)) da_nil)))))
  ds_nil)))
  (ds_cons (ds_set 5 gok0 sc_l_made_piece.nd rfl (by first | exact Or.inl rfl | exact Or.inr rfl) (de_sl (db_of (de_tup (da_cons (de_op or_add os_add (db_of (de_ix (db_var 0 (pv 0) (.inl (by rfl))) (db_of de_int) (fun _ _ => rfl))) (db_of de_int)) (da_cons (de_op op_sub os_sub (db_var 3 (pv 3) (.inl (by rfl))) (db_of (de_ix (db_var 0 (pv 0) (.inl (by rfl))) (db_of de_int) (fun _ _ => rfl)))) (da_cons de_int (da_cons (de_var 3 (pv 3) rfl) da_nil)))))) dp_none (dp_some (de_ix (db_own (de_lst (da_cons de_int (da_cons de_int (da_cons de_int (da_cons de_int (da_cons de_int (da_cons de_int da_nil)))))))) (db_of (de_bltn (call_min2 rfl) cs_ints2 (by rfl) T.n_min (by decide +kernel) (dm_bor (db_of (de_ix (db_var 0 (pv 0) (.inl (by rfl))) (db_of de_int) (fun _ _ => rfl))) (dm_bor (db_of de_int) dm_nil)))) (fun _ _ => rfl)))))
  (ds_cons (ds_set 6 gok0 sc_l_made_piece.nd rfl (by first | exact Or.inl rfl | exact Or.inr rfl) (de_sl (db_of (de_tup (da_cons (de_op or_add os_add (db_of (de_ix (db_var 0 (pv 0) (.inl (by rfl))) (db_of de_int) (fun _ _ => rfl))) (db_of de_int)) (da_cons (de_op op_sub os_sub (db_var 3 (pv 3) (.inl (by rfl))) (db_of (de_ix (db_var 0 (pv 0) (.inl (by rfl))) (db_of de_int) (fun _ _ => rfl)))) (da_cons de_int (da_cons (de_var 3 (pv 3) rfl) da_nil)))))) dp_none (dp_some (de_bltn (call_min2 rfl) cs_ints2 (by rfl) T.n_min (by decide +kernel) (dm_bor (db_var 2 (pv 2) (.inl (by rfl))) (dm_bor (db_of (de_ix (db_own (de_lst (da_cons de_int (da_cons de_int (da_cons de_int (da_cons de_int (da_cons de_int (da_cons de_int da_nil)))))))) (db_of (de_bltn (call_min2 rfl) cs_ints2 (by rfl) T.n_min (by decide +kernel) (dm_bor (db_of (de_ix (db_var 0 (pv 0) (.inl (by rfl))) (db_of de_int) (fun _ _ => rfl))) (dm_bor (db_of de_int) dm_nil)))) (fun _ _ => rfl))) dm_nil))))))
  (ds_one (ds_ret gok0 rfl (de_tup (da_cons (de_op or_add os_add (db_of (de_ix (db_var 0 (pv 0) (.inl (by rfl))) (db_of de_int) (fun _ _ => rfl))) (db_of de_int)) (da_cons (de_var 4 (pv 4) rfl) (da_cons (de_var 5 (pv 5) rfl) (da_cons (de_var 6 (pv 6) rfl) da_nil)))))))))))
theorem ok_l_made_blocks (T : Txt K mg) : FnOk P w K mg base (L2N.CX P w) 2 T.f_l_made_blocks T.fd_l_made_blocks ["_law_cells", "_law_many", "_law_cap", "_law_wide", "_law_tall"] (spD K T.cm [false, false, false, false, false] false F_l_made_blocks)   := dok (G' := []) (k := 1) T.F_l_made_blocks sc_l_made_blocks rfl (by decide) fun cdv A outer s H E hr =>
  (ds_cons (ds_set 5 gok0 sc_l_made_blocks.nd rfl (by first | exact Or.inl rfl | exact Or.inr rfl) (de_pub (de_lst (da_cons (de_var 4 (pv 4) rfl) (da_cons (de_op or_add os_add (db_var 3 (pv 3) (.inl (by rfl))) (db_of de_int)) (da_cons (de_op or_add os_add (db_var 4 (pv 4) (.inl (by rfl))) (db_of de_int)) (da_cons de_int (da_cons de_int da_nil))))))))
  (ds_cons (ds_for gok0 (passes_of rfl) rfl (di_rng1 T.n_range (by rfl) (da_cons de_int da_nil)) (dg_name 6 sc_l_made_blocks.nd rfl (by first | exact Or.inl rfl | exact Or.inr rfl))
  (ds_one (ds_set 5 gok0 sc_l_made_blocks.nd rfl (by first | exact Or.inl rfl | exact Or.inr rfl) (de_op or_add os_add (db_var 5 (pv 5) (.inl (by rfl))) (db_own (de_lst (da_cons (de_var 3 (pv 3) rfl) (da_cons de_int (da_cons (de_op or_add os_add (db_var 3 (pv 3) (.inl (by rfl))) (db_of de_int)) (da_cons de_int (da_cons (de_var 4 (pv 4) rfl) (da_cons de_int (da_cons (de_var 4 (pv 4) rfl) da_nil)))))))))))))
  (ds_cons (ds_par3O 7 8 9 gok0 rfl sc_l_made_blocks.nd rfl rfl rfl (by decide) (by decide) (by decide) (by decide) rfl rfl rfl (de_lst da_nil) de_int (de_var 2 (pv 2) rfl) (by rfl))
  (ds_cons (ds_for gok0 (passes_of rfl) rfl (di_rng1 T.n_range (by rfl) (da_cons (de_var 1 (pv 1) rfl) da_nil)) (dg_name 10 sc_l_made_blocks.nd rfl (by first | exact Or.inl rfl | exact Or.inr rfl))
  (ds_one (ds_if gok0 (dt_cmp or_lt os_ord (db_var 8 (pv 8) (.inl (by rfl))) (db_var 1 (pv 1) (.inl (by rfl))) (nomark _))
  (ds_pubE (G' := [.v, .v, .v, .v, .v, .v, .v, .o, .v, .v, .v, .v, .v, .v, .o, .v]) 14 (ds_cons (ds_set 11 gok0 sc_l_made_blocks.nd rfl (by first | exact Or.inl rfl | exact Or.inr rfl) (de_ix (db_var 0 (pv 0) (.inl (by rfl))) (db_of (de_op op_mod os_mod (db_of (de_type cr_int cs_int (by rfl) T.n_int (by decide +kernel) (dm_bor (db_var 10 (pv 10) (.inl (by rfl))) dm_nil))) (db_of (de_bltn call_len cs_len (by rfl) T.n_len (by decide +kernel) (dm_bor (db_var 0 (pv 0) (.inl (by rfl))) dm_nil))))) (fun _ _ => rfl)))
  (ds_cons (ds_set 12 gok0 sc_l_made_blocks.nd rfl (by first | exact Or.inl rfl | exact Or.inr rfl) (de_callV (ok_l_row T) (L2N.takes_of rfl rfl rfl rfl) (hr.mono (by decide)) (by rfl) T.g_l_row T.F_l_row.kp T.b_l_row (dm_val (de_op or_add os_add (db_var 11 (pv 11) (.inl (by rfl))) (db_of (de_op or_mulX os_mulX (db_of de_int) (db_of (de_op or_fdiv os_fdiv (db_var 10 (pv 10) (.inl (by rfl))) (db_of (de_bltn call_len cs_len (by rfl) T.n_len (by decide +kernel) (dm_bor (db_var 0 (pv 0) (.inl (by rfl))) dm_nil)))))))) (dm_val (de_var 5 (pv 5) rfl) dm_nil))))
  (ds_cons (ds_set 13 gok0 sc_l_made_blocks.nd rfl (by first | exact Or.inl rfl | exact Or.inr rfl) (de_bltn (call_min2 rfl) cs_ints2 (by rfl) T.n_min (by decide +kernel) (dm_bor (db_of (de_op or_add os_add (db_of (de_ix (db_var 12 (pv 12) (.inl (by rfl))) (db_of de_int) (fun _ _ => rfl))) (db_of de_int))) (dm_bor (db_of (de_op op_sub os_sub (db_var 1 (pv 1) (.inl (by rfl))) (db_var 8 (pv 8) (.inl (by rfl))))) dm_nil))))
  (ds_cons (ds_setO 14 gok0 (show 14 < 16 by decide) sc_l_made_blocks.nd rfl (by first | exact Or.inl rfl | exact Or.inr rfl) (de_lst da_nil))
  (ds_cons (ds_for gok0 (passes_of rfl) rfl (di_rng1 T.n_range (by rfl) (da_cons (de_var 13 (pv 13) rfl) da_nil)) (dg_name 6 sc_l_made_blocks.nd rfl (by first | exact Or.inl rfl | exact Or.inr rfl))
  (ds_cons (ds_set 15 gok0 sc_l_made_blocks.nd rfl (by first | exact Or.inl rfl | exact Or.inr rfl) (de_callV (ok_l_made_piece T) (L2N.takes_of rfl rfl rfl rfl) (hr.mono (by decide)) (by rfl) T.g_l_made_piece T.F_l_made_piece.kp T.b_l_made_piece (dm_val (de_sl (db_var 12 (pv 12) (.inl (by rfl))) (dp_some (de_op or_add os_add (db_of (de_op or_mulX os_mulX (db_of de_int) (db_var 6 (pv 6) (.inl (by rfl))))) (db_of de_int))) (dp_some (de_op or_add os_add (db_of (de_op or_mulX os_mulX (db_of de_int) (db_var 6 (pv 6) (.inl (by rfl))))) (db_of de_int)))) (dm_val (de_cmp (or_eq hr.units) os_eq (db_var 6 (pv 6) (.inl (by rfl))) (db_of (de_op op_sub os_sub (db_var 13 (pv 13) (.inl (by rfl))) (db_of de_int))) (nomark _)) (dm_val (de_var 9 (pv 9) rfl) (dm_val (de_var 4 (pv 4) rfl) dm_nil))))))
  (ds_cons (ds_set 9 gok0 sc_l_made_blocks.nd rfl (by first | exact Or.inl rfl | exact Or.inr rfl) (de_op op_sub os_sub (db_var 9 (pv 9) (.inl (by rfl))) (db_of (de_bltn call_len cs_len (by rfl) T.n_len (by decide +kernel) (dm_bor (db_of (de_ix (db_var 15 (pv 15) (.inl (by rfl))) (db_of de_int) (fun _ _ => rfl))) dm_nil)))))
  (ds_one (ds_app 14 gok0 rfl (pv 14) (de_var 15 (pv 15) rfl))))))
  (ds_cons (ds_app 7 gok0 rfl (pv 7) (de_tup (da_cons (de_op or_add os_add (db_of (de_ix (db_var 12 (pv 12) (.inl (by rfl))) (db_of de_int) (fun _ _ => rfl))) (db_of de_int)) (da_cons (de_ix (db_var 12 (pv 12) (.inl (by rfl))) (db_of de_int) (fun _ _ => rfl)) (da_cons (de_ix (db_var 12 (pv 12) (.inl (by rfl))) (db_of de_int) (fun _ _ => rfl)) (da_cons (de_cmp (or_eq hr.units) os_eq (db_of (de_ix (db_var 12 (pv 12) (.inl (by rfl))) (db_of de_int) (fun _ _ => rfl))) (db_of de_int) (nomark _)) (da_cons (de_type call_tuple_of cs_tuple (by rfl) T.n_tuple (by decide +kernel) (dm_bor (db_var 14 (pv 14) (.inr (.inl (by trivial)))) dm_nil)) da_nil)))))))
  (ds_one (ds_set 8 gok0 sc_l_made_blocks.nd rfl (by first | exact Or.inl rfl | exact Or.inr rfl) (de_op or_add os_add (db_var 8 (pv 8) (.inl (by rfl))) (db_var 13 (pv 13) (.inl (by rfl)))))))))))) (.inl rfl))
  ds_nil)))
  (ds_pub 7 (ds_one (ds_ret gok0 rfl (de_var 7 (pv 7) rfl))) (.inl rfl))))))
theorem ok_l_cells_from (T : Txt K mg) : FnOk P w K mg base (L2N.CX P w) 2 T.f_l_cells_from T.fd_l_cells_from ["_law_script", "_law_at"] (spD K T.cm [false, false] false F_l_cells_from)   := dok (G' := []) (k := 1) T.F_l_cells_from sc_l_cells_from rfl (by decide) fun cdv A outer s H E hr =>
  (ds_one (ds_ret gok0 rfl (de_pub (de_lc (own := [("_law_k", 2)]) rfl sc_l_cells_from.nd (di_rng1 T.n_range (by rfl) (da_cons (de_bltn (call_max2 rfl) cs_ints2 (by rfl) T.n_max (by decide +kernel) (dm_bor (db_of de_int) (dm_bor (db_of (de_bltn (call_min2 rfl) cs_ints2 (by rfl) T.n_min (by decide +kernel) (dm_bor (db_of de_int) (dm_bor (db_of (de_op op_sub os_sub (db_of (de_bltn call_len cs_len (by rfl) T.n_len (by decide +kernel) (dm_bor (db_var 0 (pv 0) (.inl (by rfl))) dm_nil))) (db_var 1 (pv 1) (.inl (by rfl))))) dm_nil)))) dm_nil))) da_nil)) (blkOk_by (own := [("_law_k", 2)]) (N := ["_law_script", "_law_at", "_law_k"]) (sc := defScope s_l_cells_from) (by decide +kernel)) (fun _ _ _ _ _ => (dg_name 2 sc_l_cells_from.nd rfl (by first | exact Or.inl rfl | exact Or.inr rfl))) (fun _ _ _ _ _ => dt_nil) (fun _ _ _ _ _ => (de_callV (ok_l_cell T) L2N.takes0 (hr.mono (by decide)) (by rfl) T.g_l_cell T.F_l_cell.kp T.b_l_cell (dm_val (de_var 0 (pv 0) rfl) (dm_val (de_op or_add os_add (db_var 1 (pv 1) (.inl (by rfl))) (db_var 2 (pv 2) (.inl (by rfl)))) dm_nil))))))))
theorem ok_l_due (T : Txt K mg) : FnOk P w K mg base (L2N.CX P w) 1 T.f_l_due T.fd_l_due ["_law_blocks"] (spD K T.cm [false] false F_l_due)   := dok (G' := []) (k := 0) T.F_l_due sc_l_due rfl (by decide) fun cdv A outer s H E hr =>
  (ds_cons (ds_asg gok0 (de_tup (da_cons de_int (da_cons de_int da_nil))) (dg_tup rfl (dg_cons (dg_name 1 sc_l_due.nd rfl (by first | exact Or.inl rfl | exact Or.inr rfl)) (dg_cons (dg_name 2 sc_l_due.nd rfl (by first | exact Or.inl rfl | exact Or.inr rfl)) dg_nil))))
  (ds_cons (ds_for gok0 (passes_of rfl) rfl (di_list (de_var 0 (pv 0) rfl)) (dg_name 3 sc_l_due.nd rfl (by first | exact Or.inl rfl | exact Or.inr rfl))
  (ds_one (ds_for gok0 (passes_of rfl) rfl (di_tup (de_ix (db_var 3 (pv 3) (.inl (by rfl))) (db_of de_int) (fun _ _ => rfl))) (dg_name 4 sc_l_due.nd rfl (by first | exact Or.inl rfl | exact Or.inr rfl))
  (ds_cons (ds_set 1 gok0 sc_l_due.nd rfl (by first | exact Or.inl rfl | exact Or.inr rfl) (de_op or_add os_add (db_var 1 (pv 1) (.inl (by rfl))) (db_of de_int)))
  (ds_one (ds_set 2 gok0 sc_l_due.nd rfl (by first | exact Or.inl rfl | exact Or.inr rfl) (de_op or_add os_add (db_var 2 (pv 2) (.inl (by rfl))) (db_of (de_bltn call_len cs_len (by rfl) T.n_len (by decide +kernel) (dm_bor (db_of (de_ix (db_var 4 (pv 4) (.inl (by rfl))) (db_of de_int) (fun _ _ => rfl))) dm_nil))))))))))
  (ds_cons (ds_if gok0 (dt_cmp or_gt os_ord (db_var 1 (pv 1) (.inl (by rfl))) (db_of de_int) (nomark _))
  (ds_one (ds_ret gok0 rfl (de_var 1 (pv 1) rfl)))
  ds_nil)
  (ds_cons (ds_if gok0 (dt_cmp or_gt os_ord (db_var 2 (pv 2) (.inl (by rfl))) (db_of de_int) (nomark _))
  (ds_one (ds_ret gok0 rfl (de_var 2 (pv 2) rfl)))
  ds_nil)
  (ds_one (ds_ret gok0 rfl de_int))))))
theorem ok_l_refused (T : Txt K mg) : FnOk P w K mg base (L2N.CX P w) 5 T.f_l_refused T.fd_l_refused ["_law_blocks", "_law_due_here"] (spD K T.cm [false, false] false F_l_refused)   := dok (G' := []) (k := 4) T.F_l_refused sc_l_refused rfl (by decide) fun cdv A outer s H E hr =>
  (ds_cons (ds_try (isM := isM_TooLarge) (Gs := [.v, .v, .v, .v]) gok0 rfl rfl sc_l_refused.nd rfl rfl ⟨by rfl, by decide, .inl T.g_TooLarge⟩ (L2N.takes_of rfl rfl rfl rfl) (by decide) T.exm_TooLarge (fun W pn xe tk po => (ds_one (ds_expr gokT (de_pub (de_make T.mk_Galley (ok_Galley_init T) tk (hr.mono (by decide)) (by rfl) T.g_Galley T.b_Galley_init (dm_bor (db_own (de_type call_list_of cs_list (by rfl) T.n_list (by decide +kernel) (dm_bor (db_var 0 (pv 0) (.inl (by rfl))) dm_nil))) dm_nil))))))
  (fun a C dd oe pn hin hz hf => (ds_cons (ds_set 3 gokC sc_l_refused.nd rfl (by first | exact Or.inl rfl | exact Or.inr rfl) (de_and (de_isX (v := .ref T.a_LaidError) (cv := .ref T.a_LaidError) (isM := isM_LaidError) rfl (T.xc_of_TooLarge hin) hz hf (fun _ h => h) (fun n b h1 h2 => T.isi_LaidError n _ b h1 h2) T.n_isinstance (by rfl) (pv 2) (pe_glob (by rfl) T.g_LaidError rfl)) (de_one (de_not (de_isX (v := .ref T.a_NoSuchNumber) (cv := .ref T.a_NoSuchNumber) (isM := isM_NoSuchNumber) rfl (T.xc_of_TooLarge hin) hz hf (fun _ h => h) (fun n b h1 h2 => T.isi_NoSuchNumber n _ b h1 h2) T.n_isinstance (by rfl) (pv 2) (pe_glob (by rfl) T.g_NoSuchNumber rfl))))))
  (ds_one (ds_ret gokC rfl (de_and (de_var 3 (pv 3) rfl) (de_and (de_callHV (okH_l_number T) L2N.takes0 (roomH_mark hr (by decide)) (hot_suite hz hf) (by rfl) T.g_l_number T.F_l_number.kp T.b_l_number (dm_val (de_xf (T.xf_of_TooLarge hin) (T.no_of_TooLarge_many hin) rfl hz hf (pv 2)) dm_nil)) (de_one (de_cmp (or_eq hr.units) os_eq (db_of (de_xf (T.xf_of_TooLarge hin) (T.no_of_TooLarge_many hin) rfl hz hf (pv 2))) (db_var 1 (pv 1) (.inl (by rfl))) (nomark _))))))))) rfl rfl)
  (ds_one (ds_ret gok0 rfl de_bl)))
theorem ok_l_sum_refused (T : Txt K mg) : FnOk P w K mg base (L2N.CX P w) 6 T.f_l_sum_refused T.fd_l_sum_refused ["_law_first", "_law_second", "_law_due_here"] (spD K T.cm [true, true, false] false F_l_sum_refused)   := dok (G' := []) (k := 5) T.F_l_sum_refused sc_l_sum_refused rfl (by decide) fun cdv A outer s H E hr =>
  (ds_cons (ds_try (isM := isM_TooLarge) (Gs := [.v, .b, .v, .v]) gok0 rfl rfl sc_l_sum_refused.nd rfl rfl ⟨by rfl, by decide, .inl T.g_TooLarge⟩ (L2N.takes_of rfl rfl rfl rfl) (by decide) T.exm_TooLarge (fun W pn xe tk po => (ds_one (ds_set 0 gokT sc_l_sum_refused.nd rfl (by first | exact Or.inl rfl | exact Or.inr rfl) (de_binX (op := .Add) T.cm_Galley T.sf_Galley T.m_Galley___add__ (ok_Galley_add T) tk (hr.mono (by decide)) T.b_Galley_add (db_var 0 (pv 0) (.inr (.inr (by rfl)))) (db_var 1 (pv 1) (.inr (.inr (by rfl))))))))
  (fun a C dd oe pn hin hz hf => (ds_one (ds_ret gokC rfl (de_and (de_callHV (okH_l_number T) L2N.takes0 (roomH_mark hr (by decide)) (hot_suite hz hf) (by rfl) T.g_l_number T.F_l_number.kp T.b_l_number (dm_val (de_xf (T.xf_of_TooLarge hin) (T.no_of_TooLarge_many hin) rfl hz hf (pv 3)) dm_nil)) (de_one (de_cmp (or_eq hr.units) os_eq (db_of (de_xf (T.xf_of_TooLarge hin) (T.no_of_TooLarge_many hin) rfl hz hf (pv 3))) (db_var 2 (pv 2) (.inl (by rfl))) (nomark _))))))) rfl rfl)
  (ds_one (ds_ret gok0 rfl de_bl)))
theorem ok_l_added (T : Txt K mg) : FnOk P w K mg base (L2N.CX P w) 6 T.f_l_added T.fd_l_added ["_law_first", "_law_second", "_law_due_here"] (spM K T.cm F_l_added)   := dokM (k := 5) (N := ["_law_first", "_law_second", "_law_due_here", "e"]) (Gs := G0 [] 4) (Cn := "Galley") (isM := isM_TooLarge) T.F_l_added sc_l_added rfl (by decide) rfl (fun cdv A outer s H E hr X hX => by
    subst hX
    exact ⟨rfl, rfl, sc_l_added.nd, rfl, rfl, ⟨by rfl, by decide, .inl T.g_TooLarge⟩, (L2N.takes_of rfl rfl rfl rfl), rfl, (fun W pn xe tk => ps_augX 0 1 sc_l_added.nd rfl (by first | exact Or.inl rfl | exact Or.inr rfl) (pv 1) T.sf_Galley T.m_Galley___iadd__ (ok_Galley_iadd T) (hr.mono (by decide)) T.b_Galley_iadd tk), (fun a C dd oe pn hin hz hf => (ds_one (ds_ret gokC rfl (de_and (de_cmp or_gt os_ord (db_var 2 (pv 2) (.inl (by rfl))) (db_of de_int) (nomark _)) (de_and (de_callHV (okH_l_number T) L2N.takes0 (roomH_mark hr (by decide)) (hot_suite hz hf) (by rfl) T.g_l_number T.F_l_number.kp T.b_l_number (dm_val (de_xf (T.xf_of_TooLarge hin) (T.no_of_TooLarge_many hin) rfl hz hf (pv 3)) dm_nil)) (de_one (de_cmp (or_eq hr.units) os_eq (db_of (de_xf (T.xf_of_TooLarge hin) (T.no_of_TooLarge_many hin) rfl hz hf (pv 3))) (db_var 2 (pv 2) (.inl (by rfl))) (nomark _)))))))), (de_cmp (or_eq hr.units) os_eq (db_var 2 (pv 2) (.inl (by rfl))) (db_of de_int) (nomark _))⟩) T.exm_TooLarge T.cm_Galley
theorem ok_l_no_piece (T : Txt K mg) : FnOk P w K mg base (L2N.CX P w) 4 T.f_l_no_piece T.fd_l_no_piece ["_law_galley", "_law_at"] (spD K T.cm [true, false] false F_l_no_piece)   := dok (G' := []) (k := 3) T.F_l_no_piece sc_l_no_piece rfl (by decide) fun cdv A outer s H E hr =>
  (ds_cons (ds_try (isM := isM_NoSuchNumber) (Gs := [.b, .v, .v, .v]) gok0 rfl rfl sc_l_no_piece.nd rfl rfl ⟨by rfl, by decide, .inl T.g_NoSuchNumber⟩ (L2N.takes_of rfl rfl rfl rfl) (by decide) T.exm_NoSuchNumber (fun W pn xe tk po => (ds_one (ds_expr gokT (de_meth (rm := false) T.cm_Galley T.cl_Galley T.m_Galley_block_at (ok_Galley_block_at T) tk (hr.mono (by decide)) T.b_Galley_block_at (db_var 0 (pv 0) (.inr (.inr (by rfl)))) (dm_val (de_var 1 (pv 1) rfl) dm_nil)))))
  (fun a C dd oe pn hin hz hf => (ds_cons (ds_set 3 gokC sc_l_no_piece.nd rfl (by first | exact Or.inl rfl | exact Or.inr rfl) (de_and (de_isX (v := .ref T.a_LaidError) (cv := .ref T.a_LaidError) (isM := isM_LaidError) rfl (T.xc_of_NoSuchNumber hin) hz hf (fun _ h => h) (fun n b h1 h2 => T.isi_LaidError n _ b h1 h2) T.n_isinstance (by rfl) (pv 2) (pe_glob (by rfl) T.g_LaidError rfl)) (de_one (de_not (de_isX (v := .ref T.a_TooLarge) (cv := .ref T.a_TooLarge) (isM := isM_TooLarge) rfl (T.xc_of_NoSuchNumber hin) hz hf (fun _ h => h) (fun n b h1 h2 => T.isi_TooLarge n _ b h1 h2) T.n_isinstance (by rfl) (pv 2) (pe_glob (by rfl) T.g_TooLarge rfl))))))
  (ds_one (ds_ret gokC rfl (de_and (de_var 3 (pv 3) rfl) (de_and (de_callHV (okH_l_number T) L2N.takes0 (roomH_mark hr (by decide)) (hot_suite hz hf) (by rfl) T.g_l_number T.F_l_number.kp T.b_l_number (dm_val (de_xf (T.xf_of_NoSuchNumber hin) (T.no_of_NoSuchNumber_number hin) rfl hz hf (pv 2)) dm_nil)) (de_one (de_cmp (or_eq hr.units) os_eq (db_of (de_xf (T.xf_of_NoSuchNumber hin) (T.no_of_NoSuchNumber_number hin) rfl hz hf (pv 2))) (db_var 1 (pv 1) (.inl (by rfl))) (nomark _))))))))) rfl rfl)
  (ds_one (ds_ret gok0 rfl de_bl)))
theorem ok_l_equal (T : Txt K mg) : FnOk P w K mg base (L2N.CX P w) 3 T.f_l_equal T.fd_l_equal ["_law_one", "_law_two", "_law_due_here"] (spD K T.cm [true, true, false] false F_l_equal)   := dok (G' := []) (k := 2) T.F_l_equal sc_l_equal rfl (by decide) fun cdv A outer s H E hr =>
  (ds_cons (ds_set 3 gok0 sc_l_equal.nd rfl (by first | exact Or.inl rfl | exact Or.inr rfl) (de_cmp (op_cmpV (op := .Eq) (fun _ _ => rfl) T.m_Galley___eq__ (ok_Galley_eq T) (hr.mono (by decide)) T.b_Galley_eq) (os_cmpV (rm := false) T.cm_Galley T.ic_Galley T.nf_Galley T.nt_Galley) (db_var 0 (pv 0) (.inr (.inr (by rfl)))) (db_var 1 (pv 1) (.inr (.inr (by rfl)))) (nomark _)))
  (ds_one (ds_ret gok0 rfl (de_and (de_isi "bool" T.n_isinstance (by rfl) (by rfl) T.n_bool (by decide +kernel) (db_var 3 (pv 3) (.inl (by rfl)))) (de_one (de_cmp (or_eq hr.units) os_eq (db_var 3 (pv 3) (.inl (by rfl))) (db_var 2 (pv 2) (.inl (by rfl))) (nomark _)))))))
theorem ok_l_shows (T : Txt K mg) : FnOk P w K mg base (L2N.CX P w) 10 T.f_l_shows T.fd_l_shows ["_law_galley", "_law_blocks"] (spD K T.cm [true, false] false F_l_shows)   := dok (G' := []) (k := 9) T.F_l_shows sc_l_shows rfl (by decide) fun cdv A outer s H E hr =>
  (ds_cons (ds_par3A 2 3 4 gok0 rfl sc_l_shows.nd rfl rfl rfl (by decide) (by decide) (by decide) (by decide) (by decide) (by decide) rfl rfl rfl (de_lst da_nil) (de_lst da_nil) (de_lst da_nil) (by rfl))
  (ds_cons (ds_for gok0 (passes_of rfl) rfl (di_rng1 T.n_range (by rfl) (da_cons (de_bltn call_len cs_len (by rfl) T.n_len (by decide +kernel) (dm_bor (db_var 1 (pv 1) (.inl (by rfl))) dm_nil)) da_nil)) (dg_name 5 sc_l_shows.nd rfl (by first | exact Or.inl rfl | exact Or.inr rfl))
  (ds_cons (ds_set 6 gok0 sc_l_shows.nd rfl (by first | exact Or.inl rfl | exact Or.inr rfl) (de_bltn call_len cs_len (by rfl) T.n_len (by decide +kernel) (dm_bor (db_var 3 (pv 3) (.inr (.inl (by trivial)))) dm_nil)))
  (ds_one (ds_for gok0 (passes_of rfl) rfl (di_tup (de_ix (db_of (de_ix (db_var 1 (pv 1) (.inl (by rfl))) (db_var 5 (pv 5) (.inl (by rfl))) (fun _ _ => rfl))) (db_of de_int) (fun _ _ => rfl))) (dg_name 7 sc_l_shows.nd rfl (by first | exact Or.inl rfl | exact Or.inr rfl))
  (ds_cons (ds_app 2 gok0 rfl (pv 2) (de_tup (da_cons (de_var 5 (pv 5) rfl) (da_cons (de_var 6 (pv 6) rfl) (da_cons (de_op or_add os_add (db_var 6 (pv 6) (.inl (by rfl))) (db_of (de_bltn call_len cs_len (by rfl) T.n_len (by decide +kernel) (dm_bor (db_of (de_ix (db_of (de_ix (db_var 1 (pv 1) (.inl (by rfl))) (db_var 5 (pv 5) (.inl (by rfl))) (fun _ _ => rfl))) (db_of de_int) (fun _ _ => rfl))) dm_nil)))) da_nil)))))
  (ds_cons (ds_app 3 gok0 rfl (pv 3) (de_var 7 (pv 7) rfl))
  (ds_one (ds_setO 4 gok0 (show 4 < 14 by decide) sc_l_shows.nd rfl (by first | exact Or.inl rfl | exact Or.inr rfl) (de_op op_cat os_addL (db_var 4 (pv 4) (.inr (.inl (by trivial)))) (db_own (de_type call_list_of cs_list (by rfl) T.n_list (by decide +kernel) (dm_bor (db_of (de_ix (db_var 7 (pv 7) (.inl (by rfl))) (db_of de_int) (fun _ _ => rfl))) dm_nil))))))))))))
  (ds_cons (ds_if gok0 (PW.pt (dw_or (dt_cmp (or_ne hr.units) os_ne (db_of (de_bltn (call_lenO T.m_Galley___len__ (ok_Galley_len T) (hr.mono (by decide)) T.b_Galley_len) (cs_lenO T.cm_Galley) (by rfl) T.n_len (by decide +kernel) (dm_bor (db_var 0 (pv 0) (.inr (.inr (by rfl)))) dm_nil))) (db_of (de_bltn call_len cs_len (by rfl) T.n_len (by decide +kernel) (dm_bor (db_var 3 (pv 3) (.inr (.inl (by trivial)))) dm_nil))) (nomark _)) (dw_or1 (dt_not (dt_val (de_callV (ok_l_same (n := 8) T) (L2N.takes_of rfl rfl rfl rfl) (hr.mono (by decide)) (by rfl) T.g_l_same T.F_l_same.kp T.b_l_same (dm_bor (db_own (de_lc (own := [("_law_block", 8)]) rfl sc_l_shows.nd (di_own T.cm_Galley T.m_Galley___iter__ (ok_it_Galley T) (hr.mono (by decide)) (db_var 0 (pv 0) (.inr (.inr (by rfl))))) (blkOk_by (own := [("_law_block", 8)]) (N := ["_law_galley", "_law_blocks", "_law_spans", "_law_pieces", "_law_heights", "_law_b", "_law_start", "_law_piece", "_law_block", "_law_turn", "_law_told", "_law_calls", "_law_k", "_law_at"]) (sc := defScope s_l_shows) (by decide +kernel)) (fun _ _ _ _ _ => (dg_name 8 sc_l_shows.nd rfl (by first | exact Or.inl rfl | exact Or.inr rfl))) (fun _ _ _ _ _ => dt_nil) (fun _ _ _ _ _ => (de_var 8 (pv 8) rfl)))) (dm_bor (db_var 1 (pv 1) (.inl (by rfl))) dm_nil))))))))
  (ds_one (ds_ret gok0 rfl de_bl))
  ds_nil)
  (ds_cons (ds_for gok0 (passes_of rfl) rfl (di_rng1 T.n_range (by rfl) (da_cons de_int da_nil)) (dg_name 9 sc_l_shows.nd rfl (by first | exact Or.inl rfl | exact Or.inr rfl))
  (ds_pubE (G' := [.b, .v, .o, .o, .o, .v, .v, .v, .v, .v, .v, .o, .v, .v]) 11 (ds_pubE (G' := [.b, .v, .o, .o, .o, .v, .v, .v, .v, .v, .o, .o, .v, .v]) 10 (ds_cons (ds_parO 10 11 gok0 rfl sc_l_shows.nd rfl rfl (by decide) (by decide) (by decide) rfl rfl (de_prop (rm := true) T.cm_Galley T.cl_Galley T.pr_Galley_pieces (ok_Galley_pieces T) (hr.mono (by decide)) T.b_Galley_pieces (db_var 0 (pv 0) (.inr (.inr (by rfl))))) (de_prop (rm := true) T.cm_Galley T.cl_Galley T.pr_Galley_figures (ok_Galley_figures T) (hr.mono (by decide)) T.b_Galley_figures (db_var 0 (pv 0) (.inr (.inr (by rfl))))) (by rfl))
  (ds_cons (ds_if gok0 (PW.pt (dw_or (dt_not (dt_val (de_callV (ok_l_same (n := 8) T) (L2N.takes_of rfl rfl rfl rfl) (hr.mono (by decide)) (by rfl) T.g_l_same T.F_l_same.kp T.b_l_same (dm_bor (db_var 10 (pv 10) (.inr (.inl (by trivial)))) (dm_bor (db_var 3 (pv 3) (.inr (.inl (by trivial)))) dm_nil))))) (dw_or1 (dt_not (dt_val (de_callV (ok_l_same (n := 8) T) (L2N.takes_of rfl rfl rfl rfl) (hr.mono (by decide)) (by rfl) T.g_l_same T.F_l_same.kp T.b_l_same (dm_bor (db_var 11 (pv 11) (.inr (.inl (by trivial)))) (dm_bor (db_var 4 (pv 4) (.inr (.inl (by trivial)))) dm_nil))))))))
  (ds_one (ds_ret gok0 rfl de_bl))
  ds_nil)
  (ds_cons (ds_app 10 gok0 rfl (pv 10) (de_var 9 (pv 9) rfl))
  (ds_one (ds_ins 11 gok0 rfl (pv 11) de_int (de_var 9 (pv 9) rfl)))))) (.inl rfl)) (.inl rfl)))
  (ds_cons (ds_for gok0 (passes_of rfl) rfl (di_rng1 T.n_range (by rfl) (da_cons (de_bltn call_len cs_len (by rfl) T.n_len (by decide +kernel) (dm_bor (db_var 3 (pv 3) (.inr (.inl (by trivial)))) dm_nil)) da_nil)) (dg_name 12 sc_l_shows.nd rfl (by first | exact Or.inl rfl | exact Or.inr rfl))
  (ds_one (ds_if gok0 (dt_not (dt_val (de_callV (ok_l_same (n := 8) T) (L2N.takes_of rfl rfl rfl rfl) (hr.mono (by decide)) (by rfl) T.g_l_same T.F_l_same.kp T.b_l_same (dm_bor (db_of (de_meth (rm := false) T.cm_Galley T.cl_Galley T.m_Galley_block_at (ok_Galley_block_at T) (L2N.takes_of rfl rfl rfl rfl) (hr.mono (by decide)) T.b_Galley_block_at (db_var 0 (pv 0) (.inr (.inr (by rfl)))) (dm_val (de_var 12 (pv 12) rfl) dm_nil))) (dm_bor (db_of (de_ix (db_var 2 (pv 2) (.inr (.inl (by trivial)))) (db_var 12 (pv 12) (.inl (by rfl))) (fun _ _ => rfl))) dm_nil)))))
  (ds_one (ds_ret gok0 rfl de_bl))
  ds_nil)))
  (ds_cons (ds_for gok0 (passes_of rfl) rfl (di_list (de_pub (de_lst (da_cons (de_neg de_int) (da_cons (de_bltn call_len cs_len (by rfl) T.n_len (by decide +kernel) (dm_bor (db_var 3 (pv 3) (.inr (.inl (by trivial)))) dm_nil)) (da_cons (de_op or_add os_add (db_of (de_bltn call_len cs_len (by rfl) T.n_len (by decide +kernel) (dm_bor (db_var 3 (pv 3) (.inr (.inl (by trivial)))) dm_nil))) (db_of de_int)) (da_cons (de_op op_sub os_sub (db_of (de_neg de_int)) (db_of (de_bltn call_len cs_len (by rfl) T.n_len (by decide +kernel) (dm_bor (db_var 3 (pv 3) (.inr (.inl (by trivial)))) dm_nil)))) da_nil))))))) (dg_name 13 sc_l_shows.nd rfl (by first | exact Or.inl rfl | exact Or.inr rfl))
  (ds_one (ds_if gok0 (dt_not (dt_val (de_callV (ok_l_no_piece T) (L2N.takes_of rfl rfl rfl rfl) (hr.mono (by decide)) (by rfl) T.g_l_no_piece T.F_l_no_piece.kp T.b_l_no_piece (dm_bor (db_var 0 (pv 0) (.inr (.inr (by rfl)))) (dm_val (de_var 13 (pv 13) rfl) dm_nil)))))
  (ds_one (ds_ret gok0 rfl de_bl))
  ds_nil)))
  (ds_one (ds_ret gok0 rfl de_bl))))))))
theorem ok_l_copied (T : Txt K mg) : FnOk P w K mg base (L2N.CX P w) 11 T.f_l_copied T.fd_l_copied ["_law_blocks"] (spD K T.cm [false] false F_l_copied)   := dok (G' := []) (k := 10) T.F_l_copied sc_l_copied rfl (by decide) fun cdv A outer s H E hr =>
  (ds_cons (ds_setO 1 gok0 (show 1 < 4 by decide) sc_l_copied.nd rfl (by first | exact Or.inl rfl | exact Or.inr rfl) (de_type call_list_of cs_list (by rfl) T.n_list (by decide +kernel) (dm_bor (db_var 0 (pv 0) (.inl (by rfl))) dm_nil)))
  (ds_cons (ds_par 2 3 gok0 rfl sc_l_copied.nd rfl rfl (by decide) rfl rfl (de_pub (de_make T.mk_Galley (ok_Galley_init T) (L2N.takes_of rfl rfl rfl rfl) (hr.mono (by decide)) (by rfl) T.g_Galley T.b_Galley_init (dm_bor (db_var 1 (pv 1) (.inr (.inl (by trivial)))) dm_nil))) (de_pub (de_make T.mk_Galley (ok_Galley_init T) (L2N.takes_of rfl rfl rfl rfl) (hr.mono (by decide)) (by rfl) T.g_Galley T.b_Galley_init (dm_bor (db_var 1 (pv 1) (.inr (.inl (by trivial)))) dm_nil))) (by rfl))
  (ds_cons (ds_if gok0 (dt_not (dt_val (de_callV (ok_l_same (n := 8) T) (L2N.takes_of rfl rfl rfl rfl) (hr.mono (by decide)) (by rfl) T.g_l_same T.F_l_same.kp T.b_l_same (dm_bor (db_var 1 (pv 1) (.inr (.inl (by trivial)))) (dm_bor (db_var 0 (pv 0) (.inl (by rfl))) dm_nil)))))
  (ds_one (ds_ret gok0 rfl de_bl))
  ds_nil)
  (ds_cons (ds_rev 1 rfl (pv 1))
  (ds_cons (ds_app 1 gok0 rfl (pv 1) (de_tup (da_cons de_int (da_cons de_int (da_cons de_int (da_cons de_bl (da_cons (de_tup (da_cons (de_tup (da_cons de_int (da_cons (de_tup (da_cons (de_strL (by decide +kernel)) da_nil)) (da_cons (de_tup da_nil) (da_cons (de_tup da_nil) da_nil))))) da_nil)) da_nil)))))))
  (ds_cons (ds_if gok0 (PW.pt (dw_or (dt_not (dt_val (de_callV (ok_l_shows T) (L2N.takes_of rfl rfl rfl rfl) (hr.mono (by decide)) (by rfl) T.g_l_shows T.F_l_shows.kp T.b_l_shows (dm_bor (db_var 2 (pv 2) (.inl (by rfl))) (dm_val (de_var 0 (pv 0) rfl) dm_nil))))) (dw_or1 (dt_not (dt_val (de_callV (ok_l_shows T) (L2N.takes_of rfl rfl rfl rfl) (hr.mono (by decide)) (by rfl) T.g_l_shows T.F_l_shows.kp T.b_l_shows (dm_bor (db_var 3 (pv 3) (.inl (by rfl))) (dm_val (de_var 0 (pv 0) rfl) dm_nil))))))))
  (ds_one (ds_ret gok0 rfl de_bl))
  ds_nil)
  (ds_one (ds_ret gok0 rfl (de_and (de_callV (ok_l_equal T) (L2N.takes_of rfl rfl rfl rfl) (hr.mono (by decide)) (by rfl) T.g_l_equal T.F_l_equal.kp T.b_l_equal (dm_bor (db_var 2 (pv 2) (.inl (by rfl))) (dm_bor (db_var 3 (pv 3) (.inl (by rfl))) (dm_val de_bl dm_nil)))) (de_one (de_callV (ok_l_equal T) (L2N.takes_of rfl rfl rfl rfl) (hr.mono (by decide)) (by rfl) T.g_l_equal T.F_l_equal.kp T.b_l_equal (dm_bor (db_var 2 (pv 2) (.inl (by rfl))) (dm_bor (db_own (de_type call_list_of cs_list (by rfl) T.n_list (by decide +kernel) (dm_bor (db_var 0 (pv 0) (.inl (by rfl))) dm_nil))) (dm_val de_bl dm_nil))))))))))))))
theorem ok_l_next (T : Txt K mg) : FnOk P w K mg base (L2N.CX P w) 1 T.f_l_next T.fd_l_next ["_law_value"] (spD K T.cm [false] false F_l_next)   := dok (G' := []) (k := 0) T.F_l_next sc_l_next rfl (by decide) fun cdv A outer s H E hr =>
  (ds_cons (ds_if gok0 (dt_cmp or_lt os_ord (db_var 0 (pv 0) (.inl (by rfl))) (db_of de_int) (nomark _))
  (ds_one (ds_ret gok0 rfl (de_op or_add os_add (db_var 0 (pv 0) (.inl (by rfl))) (db_of de_int))))
  ds_nil)
  (ds_one (ds_ret gok0 rfl (de_op op_sub os_sub (db_var 0 (pv 0) (.inl (by rfl))) (db_of de_int)))))
theorem ok_l_near (T : Txt K mg) : FnOk P w K mg base (L2N.CX P w) 2 T.f_l_near T.fd_l_near ["_law_blocks", "_law_at", "_law_k"] (spD K T.cm [false, false, false] false F_l_near)   := dok (G' := []) (k := 1) T.F_l_near sc_l_near rfl (by decide) fun cdv A outer s H E hr =>
  (ds_cons (ds_set 3 gok0 sc_l_near.nd rfl (by first | exact Or.inl rfl | exact Or.inr rfl) (de_ix (db_var 0 (pv 0) (.inl (by rfl))) (db_var 1 (pv 1) (.inl (by rfl))) (fun _ _ => rfl)))
  (ds_cons (ds_parO 4 5 gok0 rfl sc_l_near.nd rfl rfl (by decide) (by decide) (by decide) rfl rfl (de_type call_list_of cs_list (by rfl) T.n_list (by decide +kernel) (dm_bor (db_of (de_sl (db_var 3 (pv 3) (.inl (by rfl))) dp_none (dp_some de_int))) dm_nil)) (de_type call_list_of cs_list (by rfl) T.n_list (by decide +kernel) (dm_bor (db_of (de_ix (db_var 3 (pv 3) (.inl (by rfl))) (db_of de_int) (fun _ _ => rfl))) dm_nil)) (by rfl))
  (ds_cons (ds_if gok0 (dt_cmp or_lt os_ord (db_var 2 (pv 2) (.inl (by rfl))) (db_of de_int) (nomark _))
  (ds_one (ds_sto 4 gok0 rfl (pv 4) (de_var 2 (pv 2) rfl) (de_callV (ok_l_next T) (L2N.takes_of rfl rfl rfl rfl) (hr.mono (by decide)) (by rfl) T.g_l_next T.F_l_next.kp T.b_l_next (dm_val (de_ix (db_var 3 (pv 3) (.inl (by rfl))) (db_var 2 (pv 2) (.inl (by rfl))) (fun _ _ => rfl)) dm_nil))))
  ds_nil)
  (ds_cons (ds_if gok0 (dt_cmp (or_eq hr.units) os_eq (db_var 2 (pv 2) (.inl (by rfl))) (db_of de_int) (nomark _))
  (ds_one (ds_sto 4 gok0 rfl (pv 4) de_int (de_not (de_ix (db_var 3 (pv 3) (.inl (by rfl))) (db_of de_int) (fun _ _ => rfl)))))
  ds_nil)
  (ds_cons (ds_if gok0 (dt_cmp (or_eq hr.units) os_eq (db_var 2 (pv 2) (.inl (by rfl))) (db_of de_int) (nomark _))
  (ds_cons (ds_pop 5 gok0 rfl (pv 5) (dg_name 6 sc_l_near.nd rfl (by first | exact Or.inl rfl | exact Or.inr rfl)))
  (ds_one (ds_app 5 gok0 rfl (pv 5) (de_tup (da_cons (de_callV (ok_l_next T) (L2N.takes_of rfl rfl rfl rfl) (hr.mono (by decide)) (by rfl) T.g_l_next T.F_l_next.kp T.b_l_next (dm_val (de_ix (db_var 6 (pv 6) (.inl (by rfl))) (db_of de_int) (fun _ _ => rfl)) dm_nil)) (da_cons (de_ix (db_var 6 (pv 6) (.inl (by rfl))) (db_of de_int) (fun _ _ => rfl)) (da_cons (de_ix (db_var 6 (pv 6) (.inl (by rfl))) (db_of de_int) (fun _ _ => rfl)) (da_cons (de_ix (db_var 6 (pv 6) (.inl (by rfl))) (db_of de_int) (fun _ _ => rfl)) da_nil))))))))
  ds_nil)
  (ds_one (ds_ret gok0 rfl (de_op or_add os_add (db_of (de_op or_add os_add (db_of (de_sl (db_var 0 (pv 0) (.inl (by rfl))) dp_none (dp_some (de_var 1 (pv 1) rfl)))) (db_own (de_lst (da_cons (de_op or_add os_add (db_of (de_type call_tuple_of cs_tuple (by rfl) T.n_tuple (by decide +kernel) (dm_bor (db_var 4 (pv 4) (.inr (.inl (by trivial)))) dm_nil))) (db_of (de_tup (da_cons (de_type call_tuple_of cs_tuple (by rfl) T.n_tuple (by decide +kernel) (dm_bor (db_var 5 (pv 5) (.inr (.inl (by trivial)))) dm_nil)) da_nil)))) da_nil))))) (db_of (de_sl (db_var 0 (pv 0) (.inl (by rfl))) (dp_some (de_op or_add os_add (db_var 1 (pv 1) (.inl (by rfl))) (db_of de_int))) dp_none))))))))))
theorem ok_l_joins (T : Txt K mg) : FnOk P w K mg base (L2N.CX P w) 11 T.f_l_joins T.fd_l_joins ["_law_one", "_law_two"] (spD K T.cm [false, false] false F_l_joins)   := dok (G' := []) (k := 10) T.F_l_joins sc_l_joins rfl (by decide) fun cdv A outer s H E hr =>
  (ds_cons (ds_par3A 2 3 4 gok0 rfl sc_l_joins.nd rfl rfl rfl (by decide) (by decide) (by decide) (by decide) (by decide) (by decide) rfl rfl rfl (de_make T.mk_Galley (ok_Galley_init T) (L2N.takes_of rfl rfl rfl rfl) (hr.mono (by decide)) (by rfl) T.g_Galley T.b_Galley_init (dm_bor (db_own (de_type call_list_of cs_list (by rfl) T.n_list (by decide +kernel) (dm_bor (db_var 0 (pv 0) (.inl (by rfl))) dm_nil))) dm_nil)) (de_make T.mk_Galley (ok_Galley_init T) (L2N.takes_of rfl rfl rfl rfl) (hr.mono (by decide)) (by rfl) T.g_Galley T.b_Galley_init (dm_bor (db_own (de_type call_list_of cs_list (by rfl) T.n_list (by decide +kernel) (dm_bor (db_var 1 (pv 1) (.inl (by rfl))) dm_nil))) dm_nil)) (de_make T.mk_Galley (ok_Galley_init T) (L2N.takes_of rfl rfl rfl rfl) (hr.mono (by decide)) (by rfl) T.g_Galley T.b_Galley_init (dm_bor (db_own (de_type call_list_of cs_list (by rfl) T.n_list (by decide +kernel) (dm_bor (db_var 0 (pv 0) (.inl (by rfl))) dm_nil))) dm_nil)) (by rfl))
  (ds_cons (ds_set 5 gok0 sc_l_joins.nd rfl (by first | exact Or.inl rfl | exact Or.inr rfl) (de_callV (ok_l_due T) (L2N.takes_of rfl rfl rfl rfl) (hr.mono (by decide)) (by rfl) T.g_l_due T.F_l_due.kp T.b_l_due (dm_val (de_op or_add os_add (db_var 0 (pv 0) (.inl (by rfl))) (db_var 1 (pv 1) (.inl (by rfl)))) dm_nil)))
  (ds_cons (ds_if gok0 (dt_cmp or_gt os_ord (db_var 5 (pv 5) (.inl (by rfl))) (db_of de_int) (nomark _))
  (ds_cons (ds_ifM (PW.pt (mw_or (mt_not (mt_pure (dt_val (de_callV (ok_l_sum_refused T) (L2N.takes_of rfl rfl rfl rfl) (hr.mono (by decide)) (by rfl) T.g_l_sum_refused T.F_l_sum_refused.kp T.b_l_sum_refused (dm_bor (db_var 2 (pv 2) (.inr (.inl (by trivial)))) (dm_bor (db_var 3 (pv 3) (.inr (.inl (by trivial)))) (dm_val (de_var 5 (pv 5) rfl) dm_nil))))))) (mw_or1 (mt_not (mt_callJ 4 3 rfl rfl (ok_l_added T) (L2N.takes_of rfl rfl rfl rfl) (hr.mono (by decide)) (by rfl) T.g_l_added T.F_l_added.kp T.b_l_added (pv 4) (pv 3) (de_var 5 (pv 5) rfl))))))
  (ds_one (ds_ret gok0 rfl de_bl))
  ds_nil)
  (ds_one (ds_ret gok0 rfl (de_and (de_callV (ok_l_shows T) (L2N.takes_of rfl rfl rfl rfl) (hr.mono (by decide)) (by rfl) T.g_l_shows T.F_l_shows.kp T.b_l_shows (dm_bor (db_var 2 (pv 2) (.inr (.inl (by trivial)))) (dm_val (de_var 0 (pv 0) rfl) dm_nil))) (de_and (de_callV (ok_l_shows T) (L2N.takes_of rfl rfl rfl rfl) (hr.mono (by decide)) (by rfl) T.g_l_shows T.F_l_shows.kp T.b_l_shows (dm_bor (db_var 3 (pv 3) (.inr (.inl (by trivial)))) (dm_val (de_var 1 (pv 1) rfl) dm_nil))) (de_one (de_callV (ok_l_shows T) (L2N.takes_of rfl rfl rfl rfl) (hr.mono (by decide)) (by rfl) T.g_l_shows T.F_l_shows.kp T.b_l_shows (dm_bor (db_var 4 (pv 4) (.inr (.inl (by trivial)))) (dm_val (de_var 0 (pv 0) rfl) dm_nil)))))))))
  ds_nil)
  (ds_cons (ds_set 6 gok0 sc_l_joins.nd rfl (by first | exact Or.inl rfl | exact Or.inr rfl) (de_op (op_binO (op := .Add) T.sf_Galley T.m_Galley___add__ (ok_Galley_add T) (hr.mono (by decide)) T.b_Galley_add) (os_binO (rm := false) T.cm_Galley) (db_var 2 (pv 2) (.inr (.inl (by trivial)))) (db_var 3 (pv 3) (.inr (.inl (by trivial))))))
  (ds_cons (ds_if gok0 (PW.pt (dw_or (dt_not (dt_val (de_callV (ok_l_shows T) (L2N.takes_of rfl rfl rfl rfl) (hr.mono (by decide)) (by rfl) T.g_l_shows T.F_l_shows.kp T.b_l_shows (dm_bor (db_var 6 (pv 6) (.inl (by rfl))) (dm_val (de_op or_add os_add (db_var 0 (pv 0) (.inl (by rfl))) (db_var 1 (pv 1) (.inl (by rfl)))) dm_nil))))) (dw_or (dt_not (dt_val (de_callV (ok_l_shows T) (L2N.takes_of rfl rfl rfl rfl) (hr.mono (by decide)) (by rfl) T.g_l_shows T.F_l_shows.kp T.b_l_shows (dm_bor (db_var 2 (pv 2) (.inr (.inl (by trivial)))) (dm_val (de_var 0 (pv 0) rfl) dm_nil))))) (dw_or1 (dt_not (dt_val (de_callV (ok_l_shows T) (L2N.takes_of rfl rfl rfl rfl) (hr.mono (by decide)) (by rfl) T.g_l_shows T.F_l_shows.kp T.b_l_shows (dm_bor (db_var 3 (pv 3) (.inr (.inl (by trivial)))) (dm_val (de_var 1 (pv 1) rfl) dm_nil)))))))))
  (ds_one (ds_ret gok0 rfl de_bl))
  ds_nil)
  (ds_cons (ds_ifM (PW.pt (mw_or (mt_not (mt_callJ 4 3 rfl rfl (ok_l_added T) (L2N.takes_of rfl rfl rfl rfl) (hr.mono (by decide)) (by rfl) T.g_l_added T.F_l_added.kp T.b_l_added (pv 4) (pv 3) de_int)) (mw_or (mt_not (mt_pure (dt_val (de_callV (ok_l_shows T) (L2N.takes_of rfl rfl rfl rfl) (hr.mono (by decide)) (by rfl) T.g_l_shows T.F_l_shows.kp T.b_l_shows (dm_bor (db_var 4 (pv 4) (.inr (.inl (by trivial)))) (dm_val (de_op or_add os_add (db_var 0 (pv 0) (.inl (by rfl))) (db_var 1 (pv 1) (.inl (by rfl)))) dm_nil)))))) (mw_or1 (mt_not (mt_pure (dt_val (de_callV (ok_l_shows T) (L2N.takes_of rfl rfl rfl rfl) (hr.mono (by decide)) (by rfl) T.g_l_shows T.F_l_shows.kp T.b_l_shows (dm_bor (db_var 3 (pv 3) (.inr (.inl (by trivial)))) (dm_val (de_var 1 (pv 1) rfl) dm_nil))))))))))
  (ds_one (ds_ret gok0 rfl de_bl))
  ds_nil)
  (ds_cons (ds_if gok0 (PW.pt (dw_or (dt_not (dt_val (de_callV (ok_l_equal T) (L2N.takes_of rfl rfl rfl rfl) (hr.mono (by decide)) (by rfl) T.g_l_equal T.F_l_equal.kp T.b_l_equal (dm_bor (db_var 4 (pv 4) (.inr (.inl (by trivial)))) (dm_bor (db_var 6 (pv 6) (.inl (by rfl))) (dm_val de_bl dm_nil)))))) (dw_or1 (dt_not (dt_val (de_callV (ok_l_equal T) (L2N.takes_of rfl rfl rfl rfl) (hr.mono (by decide)) (by rfl) T.g_l_equal T.F_l_equal.kp T.b_l_equal (dm_bor (db_var 4 (pv 4) (.inr (.inl (by trivial)))) (dm_bor (db_var 2 (pv 2) (.inr (.inl (by trivial)))) (dm_val (de_cmp (or_eq hr.units) os_eq (db_of (de_bltn call_len cs_len (by rfl) T.n_len (by decide +kernel) (dm_bor (db_var 1 (pv 1) (.inl (by rfl))) dm_nil))) (db_of de_int) (nomark _)) dm_nil)))))))))
  (ds_one (ds_ret gok0 rfl de_bl))
  ds_nil)
  (ds_cons (ds_setO 7 gok0 (show 7 < 11 by decide) sc_l_joins.nd rfl (by first | exact Or.inl rfl | exact Or.inr rfl) (de_make0 T.mk_Galley (ok_Galley_init T) (L2N.takes_of rfl rfl rfl rfl) (hr.mono (by decide)) (by rfl) T.g_Galley T.bd_Galley_init (dvs := [.ref T.e_Galley_init]) (.cons rfl .nil) (fun S _ => ⟨.inl (T.kt_Galley_init S), trivial⟩)))
  (ds_cons (ds_ifM (PW.pt (mw_or (mt_not (mt_callO 7 rfl (ok_l_added T) (L2N.takes_of rfl rfl rfl rfl) (hr.mono (by decide)) (by rfl) T.g_l_added T.F_l_added.kp T.b_l_added (pv 7) (de_make T.mk_Galley (ok_Galley_init T) (L2N.takes_of rfl rfl rfl rfl) (hr.mono (by decide)) (by rfl) T.g_Galley T.b_Galley_init (dm_bor (db_own (de_type call_list_of cs_list (by rfl) T.n_list (by decide +kernel) (dm_bor (db_var 0 (pv 0) (.inl (by rfl))) dm_nil))) dm_nil)) de_int)) (mw_or (mt_not (mt_pure (dt_val (de_callV (ok_l_shows T) (L2N.takes_of rfl rfl rfl rfl) (hr.mono (by decide)) (by rfl) T.g_l_shows T.F_l_shows.kp T.b_l_shows (dm_bor (db_var 7 (pv 7) (.inr (.inl (by trivial)))) (dm_val (de_var 0 (pv 0) rfl) dm_nil)))))) (mw_or1 (mt_not (mt_pure (dt_val (de_callV (ok_l_shows T) (L2N.takes_of rfl rfl rfl rfl) (hr.mono (by decide)) (by rfl) T.g_l_shows T.F_l_shows.kp T.b_l_shows (dm_bor (db_own (de_make0 T.mk_Galley (ok_Galley_init T) (L2N.takes_of rfl rfl rfl rfl) (hr.mono (by decide)) (by rfl) T.g_Galley T.bd_Galley_init (dvs := [.ref T.e_Galley_init]) (.cons rfl .nil) (fun S _ => ⟨.inl (T.kt_Galley_init S), trivial⟩))) (dm_val (de_pub (de_lst da_nil)) dm_nil))))))))))
  (ds_one (ds_ret gok0 rfl de_bl))
  ds_nil)
  (ds_cons (ds_set 8 gok0 sc_l_joins.nd rfl (by first | exact Or.inl rfl | exact Or.inr rfl) (de_pub (de_lst (da_cons (de_tup (da_cons de_int (da_cons de_int (da_cons de_int (da_cons de_bl (da_cons (de_tup (da_cons (de_tup (da_cons de_int (da_cons (de_tup (da_cons (de_strL (by decide +kernel)) da_nil)) (da_cons (de_tup da_nil) (da_cons (de_tup da_nil) da_nil))))) da_nil)) da_nil)))))) da_nil))))
  (ds_cons (ds_if gok0 (dt_cmp (or_eq hr.units) os_eq (db_of (de_callV (ok_l_due T) (L2N.takes_of rfl rfl rfl rfl) (hr.mono (by decide)) (by rfl) T.g_l_due T.F_l_due.kp T.b_l_due (dm_val (de_op or_add os_add (db_var 1 (pv 1) (.inl (by rfl))) (db_var 8 (pv 8) (.inl (by rfl)))) dm_nil))) (db_of de_int) (nomark _))
  (ds_one (ds_ifM (PW.pt (mw_or (mt_not (mt_callO 3 rfl (ok_l_added T) (L2N.takes_of rfl rfl rfl rfl) (hr.mono (by decide)) (by rfl) T.g_l_added T.F_l_added.kp T.b_l_added (pv 3) (de_make T.mk_Galley (ok_Galley_init T) (L2N.takes_of rfl rfl rfl rfl) (hr.mono (by decide)) (by rfl) T.g_Galley T.b_Galley_init (dm_bor (db_own (de_type call_list_of cs_list (by rfl) T.n_list (by decide +kernel) (dm_bor (db_var 8 (pv 8) (.inl (by rfl))) dm_nil))) dm_nil)) de_int)) (mw_or1 (mt_not (mt_pure (dt_val (de_callV (ok_l_shows T) (L2N.takes_of rfl rfl rfl rfl) (hr.mono (by decide)) (by rfl) T.g_l_shows T.F_l_shows.kp T.b_l_shows (dm_bor (db_var 3 (pv 3) (.inr (.inl (by trivial)))) (dm_val (de_op or_add os_add (db_var 1 (pv 1) (.inl (by rfl))) (db_var 8 (pv 8) (.inl (by rfl)))) dm_nil)))))))))
  (ds_one (ds_ret gok0 rfl de_bl))
  ds_nil))
  ds_nil)
  (ds_cons (ds_set 9 gok0 sc_l_joins.nd rfl (by first | exact Or.inl rfl | exact Or.inr rfl) (de_callV (ok_l_due T) (L2N.takes_of rfl rfl rfl rfl) (hr.mono (by decide)) (by rfl) T.g_l_due T.F_l_due.kp T.b_l_due (dm_val (de_op or_add os_add (db_var 0 (pv 0) (.inl (by rfl))) (db_var 0 (pv 0) (.inl (by rfl)))) dm_nil)))
  (ds_cons (ds_ifM (mt_not (mt_callJ 2 2 rfl rfl (ok_l_added T) (L2N.takes_of rfl rfl rfl rfl) (hr.mono (by decide)) (by rfl) T.g_l_added T.F_l_added.kp T.b_l_added (pv 2) (pv 2) (de_var 9 (pv 9) rfl)))
  (ds_one (ds_ret gok0 rfl de_bl))
  ds_nil)
  (ds_cons (ds_if gok0 (dt_not (dt_val (de_callV (ok_l_shows T) (L2N.takes_of rfl rfl rfl rfl) (hr.mono (by decide)) (by rfl) T.g_l_shows T.F_l_shows.kp T.b_l_shows (dm_bor (db_var 2 (pv 2) (.inr (.inl (by trivial)))) (dm_val (de_op or_add os_add (db_var 0 (pv 0) (.inl (by rfl))) (db_own (de_lc (own := [("_law_block", 10)]) rfl sc_l_joins.nd (di_list (de_var 0 (pv 0) rfl)) (blkOk_by (own := [("_law_block", 10)]) (N := ["_law_one", "_law_two", "_law_first", "_law_second", "_law_held", "_law_due_here", "_law_both", "_law_bare", "_law_extra", "_law_twice", "_law_block"]) (sc := defScope s_l_joins) (by decide +kernel)) (fun _ _ _ _ _ => (dg_name 10 sc_l_joins.nd rfl (by first | exact Or.inl rfl | exact Or.inr rfl))) (fun _ _ _ _ _ => (dt_one (dt_cmp (or_eq hr.units) os_eq (db_var 9 (pv 9) (.inl (by rfl))) (db_of de_int) (nomark _)))) (fun _ _ _ _ _ => (de_var 10 (pv 10) rfl))))) dm_nil)))))
  (ds_one (ds_ret gok0 rfl de_bl))
  ds_nil)
  (ds_one (ds_ret gok0 rfl (de_and (de_callV (ok_l_shows T) (L2N.takes_of rfl rfl rfl rfl) (hr.mono (by decide)) (by rfl) T.g_l_shows T.F_l_shows.kp T.b_l_shows (dm_bor (db_var 6 (pv 6) (.inl (by rfl))) (dm_val (de_op or_add os_add (db_var 0 (pv 0) (.inl (by rfl))) (db_var 1 (pv 1) (.inl (by rfl)))) dm_nil))) (de_one (de_callV (ok_l_shows T) (L2N.takes_of rfl rfl rfl rfl) (hr.mono (by decide)) (by rfl) T.g_l_shows T.F_l_shows.kp T.b_l_shows (dm_bor (db_var 4 (pv 4) (.inr (.inl (by trivial)))) (dm_val (de_op or_add os_add (db_var 0 (pv 0) (.inl (by rfl))) (db_var 1 (pv 1) (.inl (by rfl)))) dm_nil)))))))))))))))))))))
theorem ok_law (T : Txt K mg) : FnOk P w K mg base (L2N.CX P w) 12 T.f_law T.fd_law ["_law_script"] (spD K T.cm [false] false F_law)   := dok (G' := []) (k := 11) T.F_law sc_law rfl (by decide) fun cdv A outer s H E hr =>
  (ds_cons (ds_set 1 gok0 sc_law.nd rfl (by first | exact Or.inl rfl | exact Or.inr rfl) (de_callV (ok_l_row T) (L2N.takes_of rfl rfl rfl rfl) (hr.mono (by decide)) (by rfl) T.g_l_row T.F_l_row.kp T.b_l_row (dm_val (de_callV (ok_l_cell T) (L2N.takes_of rfl rfl rfl rfl) (hr.mono (by decide)) (by rfl) T.g_l_cell T.F_l_cell.kp T.b_l_cell (dm_val (de_var 0 (pv 0) rfl) (dm_val de_int dm_nil))) (dm_val (de_pub (de_lst (da_cons de_int (da_cons de_int (da_cons de_int (da_cons de_int (da_cons de_int (da_cons de_int (da_cons de_int (da_cons de_int (da_cons de_int da_nil))))))))))) dm_nil))))
  (ds_cons (ds_set 2 gok0 sc_law.nd rfl (by first | exact Or.inl rfl | exact Or.inr rfl) (de_ix (db_own (de_lst (da_cons (de_tup (da_cons de_int (da_cons de_int da_nil))) (da_cons (de_tup (da_cons de_int (da_cons de_int da_nil))) (da_cons (de_tup (da_cons de_int (da_cons de_int da_nil))) (da_cons (de_tup (da_cons de_int (da_cons de_int da_nil))) (da_cons (de_tup (da_cons de_int (da_cons de_int da_nil))) (da_cons (de_tup (da_cons (de_ix (db_var 1 (pv 1) (.inl (by rfl))) (db_of de_int) (fun _ _ => rfl)) (da_cons (de_ix (db_var 1 (pv 1) (.inl (by rfl))) (db_of de_int) (fun _ _ => rfl)) da_nil))) da_nil)))))))) (db_of (de_bltn (call_min2 rfl) cs_ints2 (by rfl) T.n_min (by decide +kernel) (dm_bor (db_of (de_ix (db_var 1 (pv 1) (.inl (by rfl))) (db_of de_int) (fun _ _ => rfl))) (dm_bor (db_of de_int) dm_nil)))) (fun _ _ => rfl)))
  (ds_cons (ds_par 3 4 gok0 rfl sc_law.nd rfl rfl (by decide) rfl rfl (de_ix (db_own (de_lst (da_cons de_int (da_cons de_int da_nil)))) (db_of (de_ix (db_var 1 (pv 1) (.inl (by rfl))) (db_of de_int) (fun _ _ => rfl))) (fun _ _ => rfl)) (de_ix (db_own (de_lst (da_cons de_int (da_cons de_int da_nil)))) (db_of (de_ix (db_var 1 (pv 1) (.inl (by rfl))) (db_of de_int) (fun _ _ => rfl))) (fun _ _ => rfl)) (by rfl))
  (ds_cons (ds_set 5 gok0 sc_law.nd rfl (by first | exact Or.inl rfl | exact Or.inr rfl) (de_callV (ok_l_made_blocks T) (L2N.takes_of rfl rfl rfl rfl) (hr.mono (by decide)) (by rfl) T.g_l_made_blocks T.F_l_made_blocks.kp T.b_l_made_blocks (dm_val (de_callV (ok_l_cells_from T) (L2N.takes_of rfl rfl rfl rfl) (hr.mono (by decide)) (by rfl) T.g_l_cells_from T.F_l_cells_from.kp T.b_l_cells_from (dm_val (de_var 0 (pv 0) rfl) (dm_val de_int dm_nil))) (dm_val (de_ix (db_var 2 (pv 2) (.inl (by rfl))) (db_of de_int) (fun _ _ => rfl)) (dm_val (de_ix (db_var 1 (pv 1) (.inl (by rfl))) (db_of de_int) (fun _ _ => rfl)) (dm_val (de_var 3 (pv 3) rfl) (dm_val (de_var 4 (pv 4) rfl) dm_nil)))))))
  (ds_cons (ds_set 6 gok0 sc_law.nd rfl (by first | exact Or.inl rfl | exact Or.inr rfl) (de_callV (ok_l_made_blocks T) (L2N.takes_of rfl rfl rfl rfl) (hr.mono (by decide)) (by rfl) T.g_l_made_blocks T.F_l_made_blocks.kp T.b_l_made_blocks (dm_val (de_callV (ok_l_cells_from T) (L2N.takes_of rfl rfl rfl rfl) (hr.mono (by decide)) (by rfl) T.g_l_cells_from T.F_l_cells_from.kp T.b_l_cells_from (dm_val (de_var 0 (pv 0) rfl) (dm_val de_int dm_nil))) (dm_val (de_ix (db_var 2 (pv 2) (.inl (by rfl))) (db_of de_int) (fun _ _ => rfl)) (dm_val (de_ix (db_var 1 (pv 1) (.inl (by rfl))) (db_of de_int) (fun _ _ => rfl)) (dm_val (de_var 3 (pv 3) rfl) (dm_val (de_var 4 (pv 4) rfl) dm_nil)))))))
  (ds_cons (ds_for gok0 (passes_of rfl) rfl (di_list (de_pub (de_lst (da_cons (de_pub (de_lst da_nil)) (da_cons (de_var 5 (pv 5) rfl) (da_cons (de_var 6 (pv 6) rfl) (da_cons (de_op or_add os_add (db_var 5 (pv 5) (.inl (by rfl))) (db_var 6 (pv 6) (.inl (by rfl)))) da_nil))))))) (dg_name 7 sc_law.nd rfl (by first | exact Or.inl rfl | exact Or.inr rfl))
  (ds_cons (ds_set 8 gok0 sc_law.nd rfl (by first | exact Or.inl rfl | exact Or.inr rfl) (de_callV (ok_l_due T) (L2N.takes_of rfl rfl rfl rfl) (hr.mono (by decide)) (by rfl) T.g_l_due T.F_l_due.kp T.b_l_due (dm_val (de_var 7 (pv 7) rfl) dm_nil)))
  (ds_cons (ds_if gok0 (PW.pt (dw_and (dt_cmp or_gt os_ord (db_var 8 (pv 8) (.inl (by rfl))) (db_of de_int) (nomark _)) (dw_and1 (dt_not (dt_val (de_callV (ok_l_refused T) (L2N.takes_of rfl rfl rfl rfl) (hr.mono (by decide)) (by rfl) T.g_l_refused T.F_l_refused.kp T.b_l_refused (dm_val (de_var 7 (pv 7) rfl) (dm_val (de_var 8 (pv 8) rfl) dm_nil))))))))
  (ds_one (ds_ret gok0 rfl de_bl))
  ds_nil)
  (ds_one (ds_if gok0 (PW.pt (dw_and (dt_cmp (or_eq hr.units) os_eq (db_var 8 (pv 8) (.inl (by rfl))) (db_of de_int) (nomark _)) (dw_and1 (dt_not (dt_val (de_callV (ok_l_copied T) (L2N.takes_of rfl rfl rfl rfl) (hr.mono (by decide)) (by rfl) T.g_l_copied T.F_l_copied.kp T.b_l_copied (dm_val (de_var 7 (pv 7) rfl) dm_nil)))))))
  (ds_one (ds_ret gok0 rfl de_bl))
  ds_nil)))))
  (ds_cons (ds_if gok0 (dt_not (dt_val (de_callV (ok_l_shows T) (L2N.takes_of rfl rfl rfl rfl) (hr.mono (by decide)) (by rfl) T.g_l_shows T.F_l_shows.kp T.b_l_shows (dm_bor (db_own (de_make0 T.mk_Galley (ok_Galley_init T) (L2N.takes_of rfl rfl rfl rfl) (hr.mono (by decide)) (by rfl) T.g_Galley T.bd_Galley_init (dvs := [.ref T.e_Galley_init]) (.cons rfl .nil) (fun S _ => ⟨.inl (T.kt_Galley_init S), trivial⟩))) (dm_val (de_pub (de_lst da_nil)) dm_nil)))))
  (ds_one (ds_ret gok0 rfl de_bl))
  ds_nil)
  (ds_cons (ds_if gok0 (PW.pt (dw_or (dt_cmp or_gt os_ord (db_of (de_callV (ok_l_due T) (L2N.takes_of rfl rfl rfl rfl) (hr.mono (by decide)) (by rfl) T.g_l_due T.F_l_due.kp T.b_l_due (dm_val (de_var 5 (pv 5) rfl) dm_nil))) (db_of de_int) (nomark _)) (dw_or1 (dt_cmp or_gt os_ord (db_of (de_callV (ok_l_due T) (L2N.takes_of rfl rfl rfl rfl) (hr.mono (by decide)) (by rfl) T.g_l_due T.F_l_due.kp T.b_l_due (dm_val (de_var 6 (pv 6) rfl) dm_nil))) (db_of de_int) (nomark _)))))
  (ds_one (ds_ret gok0 rfl de_bl))
  ds_nil)
  (ds_cons (ds_if gok0 (dt_cmp or_gt os_ord (db_of (de_bltn call_len cs_len (by rfl) T.n_len (by decide +kernel) (dm_bor (db_var 5 (pv 5) (.inl (by rfl))) dm_nil))) (db_of de_int) (nomark _))
  (ds_cons (ds_set 9 gok0 sc_law.nd rfl (by first | exact Or.inl rfl | exact Or.inr rfl) (de_callV (ok_l_near T) (L2N.takes_of rfl rfl rfl rfl) (hr.mono (by decide)) (by rfl) T.g_l_near T.F_l_near.kp T.b_l_near (dm_val (de_var 5 (pv 5) rfl) (dm_val (de_op op_mod os_mod (db_of (de_type cr_int cs_int (by rfl) T.n_int (by decide +kernel) (dm_bor (db_of (de_ix (db_var 1 (pv 1) (.inl (by rfl))) (db_of de_int) (fun _ _ => rfl))) dm_nil))) (db_of (de_bltn call_len cs_len (by rfl) T.n_len (by decide +kernel) (dm_bor (db_var 5 (pv 5) (.inl (by rfl))) dm_nil)))) (dm_val (de_ix (db_var 1 (pv 1) (.inl (by rfl))) (db_of de_int) (fun _ _ => rfl)) dm_nil)))))
  (ds_one (ds_if gok0 (dt_not (dt_val (de_callV (ok_l_equal T) (L2N.takes_of rfl rfl rfl rfl) (hr.mono (by decide)) (by rfl) T.g_l_equal T.F_l_equal.kp T.b_l_equal (dm_bor (db_own (de_make T.mk_Galley (ok_Galley_init T) (L2N.takes_of rfl rfl rfl rfl) (hr.mono (by decide)) (by rfl) T.g_Galley T.b_Galley_init (dm_bor (db_var 9 (pv 9) (.inl (by rfl))) dm_nil))) (dm_bor (db_own (de_make T.mk_Galley (ok_Galley_init T) (L2N.takes_of rfl rfl rfl rfl) (hr.mono (by decide)) (by rfl) T.g_Galley T.b_Galley_init (dm_bor (db_own (de_type call_list_of cs_list (by rfl) T.n_list (by decide +kernel) (dm_bor (db_var 5 (pv 5) (.inl (by rfl))) dm_nil))) dm_nil))) (dm_val de_bl dm_nil))))))
  (ds_one (ds_ret gok0 rfl de_bl))
  ds_nil)))
  ds_nil)
  (ds_one (ds_ret gok0 rfl (de_callV (ok_l_joins T) (L2N.takes_of rfl rfl rfl rfl) (hr.mono (by decide)) (by rfl) T.g_l_joins T.F_l_joins.kp T.b_l_joins (dm_val (de_var 5 (pv 5) rfl) (dm_val (de_var 6 (pv 6) rfl) dm_nil))))))))))))))
end
end Lk
end S_P_walk
section S_P_end
set_option Elab.async false
set_option linter.all false
set_option maxRecDepth 100000
set_option maxHeartbeats 4000000
namespace Lk
open PySem L2 Dx PySem.Spec PyProof.Rows
theorem txt_mk {K : PySem.W.Frag} {h : Heap} {mg : Str → Option Value} (X : K.In h) (G : h.Ns mainGlobals mg)
    {f0 : Addr} {oc0 kV0 dc0 pm0 cd0 ct0 : Value} {od0 an0 : Option Addr} {sl0 : Array (Option Value)}
    {f1 : Addr} {oc1 kV1 dc1 pm1 cd1 ct1 : Value} {od1 an1 : Option Addr} {sl1 : Array (Option Value)}
    {f2 : Addr} {oc2 kV2 dc2 pm2 cd2 ct2 : Value} {od2 an2 : Option Addr} {sl2 : Array (Option Value)}
    {f3 : Addr} {oc3 kV3 dc3 pm3 cd3 ct3 : Value} {od3 an3 : Option Addr} {sl3 : Array (Option Value)}
    {dtT3 dtE3 : Addr} {ocT3 : Value} {odT3 odE3 : Option Addr} {nT3 nE3 : Nat} {slT3 slE3 : Array (Option Value)}
    {f4 : Addr} {oc4 kV4 dc4 pm4 cd4 ct4 : Value} {od4 an4 : Option Addr} {sl4 : Array (Option Value)}
    {f5 : Addr} {oc5 kV5 dc5 pm5 cd5 ct5 : Value} {od5 an5 : Option Addr} {sl5 : Array (Option Value)}
    {f6 : Addr} {oc6 kV6 dc6 pm6 cd6 ct6 : Value} {od6 an6 : Option Addr} {sl6 : Array (Option Value)}
    {f7 : Addr} {oc7 kV7 dc7 pm7 cd7 ct7 : Value} {od7 an7 : Option Addr} {sl7 : Array (Option Value)}
    {f8 : Addr} {oc8 kV8 dc8 pm8 cd8 ct8 : Value} {od8 an8 : Option Addr} {sl8 : Array (Option Value)}
    {f9 : Addr} {oc9 kV9 dc9 pm9 cd9 ct9 : Value} {od9 an9 : Option Addr} {sl9 : Array (Option Value)}
    {f10 : Addr} {oc10 kV10 dc10 pm10 cd10 ct10 : Value} {od10 an10 : Option Addr} {sl10 : Array (Option Value)}
    {f11 : Addr} {oc11 kV11 dc11 pm11 cd11 ct11 : Value} {od11 an11 : Option Addr} {sl11 : Array (Option Value)}
    {f12 : Addr} {oc12 kV12 dc12 pm12 cd12 ct12 : Value} {od12 an12 : Option Addr} {sl12 : Array (Option Value)}
    {f13 : Addr} {oc13 kV13 dc13 pm13 cd13 ct13 : Value} {od13 an13 : Option Addr} {sl13 : Array (Option Value)}
    {f14 : Addr} {oc14 kV14 dc14 pm14 cd14 ct14 : Value} {od14 an14 : Option Addr} {sl14 : Array (Option Value)}
    {f15 : Addr} {oc15 kV15 dc15 pm15 cd15 ct15 : Value} {od15 an15 : Option Addr} {sl15 : Array (Option Value)}
    {f16 : Addr} {oc16 kV16 dc16 pm16 cd16 ct16 : Value} {od16 an16 : Option Addr} {sl16 : Array (Option Value)}
    {f17 : Addr} {oc17 kV17 dc17 pm17 cd17 ct17 : Value} {od17 an17 : Option Addr} {sl17 : Array (Option Value)}
    {f18 : Addr} {oc18 kV18 dc18 pm18 cd18 ct18 : Value} {od18 an18 : Option Addr} {sl18 : Array (Option Value)}
    {f19 : Addr} {oc19 kV19 dc19 pm19 cd19 ct19 : Value} {od19 an19 : Option Addr} {sl19 : Array (Option Value)}
    {f20 : Addr} {oc20 kV20 dc20 pm20 cd20 ct20 : Value} {od20 an20 : Option Addr} {sl20 : Array (Option Value)}
    {f21 : Addr} {oc21 kV21 dc21 pm21 cd21 ct21 : Value} {od21 an21 : Option Addr} {sl21 : Array (Option Value)}
    {f22 : Addr} {oc22 kV22 dc22 pm22 cd22 ct22 : Value} {od22 an22 : Option Addr} {sl22 : Array (Option Value)}
    {f23 : Addr} {oc23 kV23 dc23 pm23 cd23 ct23 : Value} {od23 an23 : Option Addr} {sl23 : Array (Option Value)}
    {f24 : Addr} {oc24 kV24 dc24 pm24 cd24 ct24 : Value} {od24 an24 : Option Addr} {sl24 : Array (Option Value)}
    {f25 : Addr} {oc25 kV25 dc25 pm25 cd25 ct25 : Value} {od25 an25 : Option Addr} {sl25 : Array (Option Value)}
    {f26 : Addr} {oc26 kV26 dc26 pm26 cd26 ct26 : Value} {od26 an26 : Option Addr} {sl26 : Array (Option Value)}
    {f27 : Addr} {oc27 kV27 dc27 pm27 cd27 ct27 : Value} {od27 an27 : Option Addr} {sl27 : Array (Option Value)}
    {f28 : Addr} {oc28 kV28 dc28 pm28 cd28 ct28 : Value} {od28 an28 : Option Addr} {sl28 : Array (Option Value)}
    {f29 : Addr} {oc29 kV29 dc29 pm29 cd29 ct29 : Value} {od29 an29 : Option Addr} {sl29 : Array (Option Value)}
    {f30 : Addr} {oc30 kV30 dc30 pm30 cd30 ct30 : Value} {od30 an30 : Option Addr} {sl30 : Array (Option Value)}
    {t_MOST_FIGURES : Tok}
    {t_MOST_PIECES : Tok}
    {A_LaidError : Addr}
    {A_NoSuchNumber : Addr}
    {A_TooLarge : Addr}
    {nm_NoSuchNumber qq_NoSuchNumber : Str} {N_NoSuchNumber fI_NoSuchNumber : Addr} {bs_NoSuchNumber bm_NoSuchNumber : List Value} {sn_NoSuchNumber : List Str} {sb_NoSuchNumber : List Value} {ab_NoSuchNumber : Bool} {co_NoSuchNumber : Option Bool} {dd_NoSuchNumber od_NoSuchNumber an_NoSuchNumber : Option Addr} {m0_NoSuchNumber m1_NoSuchNumber m2_NoSuchNumber m3_NoSuchNumber m5_NoSuchNumber : Option Value} {oc_NoSuchNumber kV_NoSuchNumber dc_NoSuchNumber pm_NoSuchNumber cd_NoSuchNumber ct_NoSuchNumber : Value} {sl_NoSuchNumber : Array (Option Value)}
    {nm_TooLarge qq_TooLarge : Str} {N_TooLarge fI_TooLarge : Addr} {bs_TooLarge bm_TooLarge : List Value} {sn_TooLarge : List Str} {sb_TooLarge : List Value} {ab_TooLarge : Bool} {co_TooLarge : Option Bool} {dd_TooLarge od_TooLarge an_TooLarge : Option Addr} {m0_TooLarge m1_TooLarge m2_TooLarge m3_TooLarge m5_TooLarge : Option Value} {oc_TooLarge kV_TooLarge dc_TooLarge pm_TooLarge cd_TooLarge ct_TooLarge : Value} {sl_TooLarge : Array (Option Value)}
    {A_Galley : Addr}
    {pp_Galley_figures : Addr} {pq_Galley_figures : List Value}
    {pp_Galley_pieces : Addr} {pq_Galley_pieces : List Value}
    (a0 : PySem.W.nsIn K mainGlobals "pieces_in" = some (some (.ref f0)))
    (l0 : K.lookup f0 = some ⟨oc0, od0, .func (PySem.W.fnOf "pieces_in" "pieces_in" (defArgs s_pieces_in) (defBody s_pieces_in) (defScope s_pieces_in) .none kV0 dc0 pm0 an0 cd0 ct0), sl0⟩) (c0 : PySem.W.codeIn K cd0 "pieces_in" = true) (k0 : PySem.W.keepIn K (.ref f0) = true)
    (a1 : PySem.W.nsIn K mainGlobals "figures_in" = some (some (.ref f1)))
    (l1 : K.lookup f1 = some ⟨oc1, od1, .func (PySem.W.fnOf "figures_in" "figures_in" (defArgs s_figures_in) (defBody s_figures_in) (defScope s_figures_in) .none kV1 dc1 pm1 an1 cd1 ct1), sl1⟩) (c1 : PySem.W.codeIn K cd1 "figures_in" = true) (k1 : PySem.W.keepIn K (.ref f1) = true)
    (a2 : PySem.W.nsIn K mainGlobals "spans_in" = some (some (.ref f2)))
    (l2 : K.lookup f2 = some ⟨oc2, od2, .func (PySem.W.fnOf "spans_in" "spans_in" (defArgs s_spans_in) (defBody s_spans_in) (defScope s_spans_in) .none kV2 dc2 pm2 an2 cd2 ct2), sl2⟩) (c2 : PySem.W.codeIn K cd2 "spans_in" = true) (k2 : PySem.W.keepIn K (.ref f2) = true)
    (l3 : K.lookup f3 = some ⟨oc3, od3, .func (PySem.W.fnOf "__init__" "Galley.__init__" (defArgs s_Galley_init) (defBody s_Galley_init) (defScope s_Galley_init) (.ref dtT3) kV3 dc3 pm3 an3 cd3 ct3), sl3⟩) (c3 : PySem.W.codeIn K cd3 "Galley.__init__" = true) (k3 : PySem.W.keepIn K (.ref f3) = true)
    (lT3 : K.lookup dtT3 = some ⟨ocT3, odT3, .seq #[.ref dtE3] nT3, slT3⟩) (lE3 : K.lookup dtE3 = some ⟨.type "tuple", odE3, .seq #[] nE3, slE3⟩)
    (l4 : K.lookup f4 = some ⟨oc4, od4, .func (PySem.W.fnOf "__len__" "Galley.__len__" (defArgs s_Galley_len) (defBody s_Galley_len) (defScope s_Galley_len) .none kV4 dc4 pm4 an4 cd4 ct4), sl4⟩) (c4 : PySem.W.codeIn K cd4 "Galley.__len__" = true) (k4 : PySem.W.keepIn K (.ref f4) = true)
    (l5 : K.lookup f5 = some ⟨oc5, od5, .func (PySem.W.fnOf "__eq__" "Galley.__eq__" (defArgs s_Galley_eq) (defBody s_Galley_eq) (defScope s_Galley_eq) .none kV5 dc5 pm5 an5 cd5 ct5), sl5⟩) (c5 : PySem.W.codeIn K cd5 "Galley.__eq__" = true) (k5 : PySem.W.keepIn K (.ref f5) = true)
    (l6 : K.lookup f6 = some ⟨oc6, od6, .func (PySem.W.fnOf "__add__" "Galley.__add__" (defArgs s_Galley_add) (defBody s_Galley_add) (defScope s_Galley_add) .none kV6 dc6 pm6 an6 cd6 ct6), sl6⟩) (c6 : PySem.W.codeIn K cd6 "Galley.__add__" = true) (k6 : PySem.W.keepIn K (.ref f6) = true)
    (l7 : K.lookup f7 = some ⟨oc7, od7, .func (PySem.W.fnOf "__iadd__" "Galley.__iadd__" (defArgs s_Galley_iadd) (defBody s_Galley_iadd) (defScope s_Galley_iadd) .none kV7 dc7 pm7 an7 cd7 ct7), sl7⟩) (c7 : PySem.W.codeIn K cd7 "Galley.__iadd__" = true) (k7 : PySem.W.keepIn K (.ref f7) = true)
    (l8 : K.lookup f8 = some ⟨oc8, od8, .func (PySem.W.fnOf "pieces" "Galley.pieces" (defArgs s_Galley_pieces) (defBody s_Galley_pieces) (defScope s_Galley_pieces) .none kV8 dc8 pm8 an8 cd8 ct8), sl8⟩) (c8 : PySem.W.codeIn K cd8 "Galley.pieces" = true) (k8 : PySem.W.keepIn K (.ref f8) = true)
    (l9 : K.lookup f9 = some ⟨oc9, od9, .func (PySem.W.fnOf "figures" "Galley.figures" (defArgs s_Galley_figures) (defBody s_Galley_figures) (defScope s_Galley_figures) .none kV9 dc9 pm9 an9 cd9 ct9), sl9⟩) (c9 : PySem.W.codeIn K cd9 "Galley.figures" = true) (k9 : PySem.W.keepIn K (.ref f9) = true)
    (l10 : K.lookup f10 = some ⟨oc10, od10, .func (PySem.W.fnOf "block_at" "Galley.block_at" (defArgs s_Galley_block_at) (defBody s_Galley_block_at) (defScope s_Galley_block_at) .none kV10 dc10 pm10 an10 cd10 ct10), sl10⟩) (c10 : PySem.W.codeIn K cd10 "Galley.block_at" = true) (k10 : PySem.W.keepIn K (.ref f10) = true)
    (a11 : PySem.W.nsIn K mainGlobals "_law_cell" = some (some (.ref f11)))
    (l11 : K.lookup f11 = some ⟨oc11, od11, .func (PySem.W.fnOf "_law_cell" "_law_cell" (defArgs s_l_cell) (defBody s_l_cell) (defScope s_l_cell) .none kV11 dc11 pm11 an11 cd11 ct11), sl11⟩) (c11 : PySem.W.codeIn K cd11 "_law_cell" = true) (k11 : PySem.W.keepIn K (.ref f11) = true)
    (a12 : PySem.W.nsIn K mainGlobals "_law_row" = some (some (.ref f12)))
    (l12 : K.lookup f12 = some ⟨oc12, od12, .func (PySem.W.fnOf "_law_row" "_law_row" (defArgs s_l_row) (defBody s_l_row) (defScope s_l_row) .none kV12 dc12 pm12 an12 cd12 ct12), sl12⟩) (c12 : PySem.W.codeIn K cd12 "_law_row" = true) (k12 : PySem.W.keepIn K (.ref f12) = true)
    (a13 : PySem.W.nsIn K mainGlobals "_law_number" = some (some (.ref f13)))
    (l13 : K.lookup f13 = some ⟨oc13, od13, .func (PySem.W.fnOf "_law_number" "_law_number" (defArgs s_l_number) (defBody s_l_number) (defScope s_l_number) .none kV13 dc13 pm13 an13 cd13 ct13), sl13⟩) (c13 : PySem.W.codeIn K cd13 "_law_number" = true) (k13 : PySem.W.keepIn K (.ref f13) = true)
    (a14 : PySem.W.nsIn K mainGlobals "_law_same" = some (some (.ref f14)))
    (l14 : K.lookup f14 = some ⟨oc14, od14, .func (PySem.W.fnOf "_law_same" "_law_same" (defArgs s_l_same) (defBody s_l_same) (defScope s_l_same) .none kV14 dc14 pm14 an14 cd14 ct14), sl14⟩) (c14 : PySem.W.codeIn K cd14 "_law_same" = true) (k14 : PySem.W.keepIn K (.ref f14) = true)
    (a15 : PySem.W.nsIn K mainGlobals "_law_made_piece" = some (some (.ref f15)))
    (l15 : K.lookup f15 = some ⟨oc15, od15, .func (PySem.W.fnOf "_law_made_piece" "_law_made_piece" (defArgs s_l_made_piece) (defBody s_l_made_piece) (defScope s_l_made_piece) .none kV15 dc15 pm15 an15 cd15 ct15), sl15⟩) (c15 : PySem.W.codeIn K cd15 "_law_made_piece" = true) (k15 : PySem.W.keepIn K (.ref f15) = true)
    (a16 : PySem.W.nsIn K mainGlobals "_law_made_blocks" = some (some (.ref f16)))
    (l16 : K.lookup f16 = some ⟨oc16, od16, .func (PySem.W.fnOf "_law_made_blocks" "_law_made_blocks" (defArgs s_l_made_blocks) (defBody s_l_made_blocks) (defScope s_l_made_blocks) .none kV16 dc16 pm16 an16 cd16 ct16), sl16⟩) (c16 : PySem.W.codeIn K cd16 "_law_made_blocks" = true) (k16 : PySem.W.keepIn K (.ref f16) = true)
    (a17 : PySem.W.nsIn K mainGlobals "_law_cells_from" = some (some (.ref f17)))
    (l17 : K.lookup f17 = some ⟨oc17, od17, .func (PySem.W.fnOf "_law_cells_from" "_law_cells_from" (defArgs s_l_cells_from) (defBody s_l_cells_from) (defScope s_l_cells_from) .none kV17 dc17 pm17 an17 cd17 ct17), sl17⟩) (c17 : PySem.W.codeIn K cd17 "_law_cells_from" = true) (k17 : PySem.W.keepIn K (.ref f17) = true)
    (a18 : PySem.W.nsIn K mainGlobals "_law_due" = some (some (.ref f18)))
    (l18 : K.lookup f18 = some ⟨oc18, od18, .func (PySem.W.fnOf "_law_due" "_law_due" (defArgs s_l_due) (defBody s_l_due) (defScope s_l_due) .none kV18 dc18 pm18 an18 cd18 ct18), sl18⟩) (c18 : PySem.W.codeIn K cd18 "_law_due" = true) (k18 : PySem.W.keepIn K (.ref f18) = true)
    (a19 : PySem.W.nsIn K mainGlobals "_law_refused" = some (some (.ref f19)))
    (l19 : K.lookup f19 = some ⟨oc19, od19, .func (PySem.W.fnOf "_law_refused" "_law_refused" (defArgs s_l_refused) (defBody s_l_refused) (defScope s_l_refused) .none kV19 dc19 pm19 an19 cd19 ct19), sl19⟩) (c19 : PySem.W.codeIn K cd19 "_law_refused" = true) (k19 : PySem.W.keepIn K (.ref f19) = true)
    (a20 : PySem.W.nsIn K mainGlobals "_law_sum_refused" = some (some (.ref f20)))
    (l20 : K.lookup f20 = some ⟨oc20, od20, .func (PySem.W.fnOf "_law_sum_refused" "_law_sum_refused" (defArgs s_l_sum_refused) (defBody s_l_sum_refused) (defScope s_l_sum_refused) .none kV20 dc20 pm20 an20 cd20 ct20), sl20⟩) (c20 : PySem.W.codeIn K cd20 "_law_sum_refused" = true) (k20 : PySem.W.keepIn K (.ref f20) = true)
    (a21 : PySem.W.nsIn K mainGlobals "_law_added" = some (some (.ref f21)))
    (l21 : K.lookup f21 = some ⟨oc21, od21, .func (PySem.W.fnOf "_law_added" "_law_added" (defArgs s_l_added) (defBody s_l_added) (defScope s_l_added) .none kV21 dc21 pm21 an21 cd21 ct21), sl21⟩) (c21 : PySem.W.codeIn K cd21 "_law_added" = true) (k21 : PySem.W.keepIn K (.ref f21) = true)
    (a22 : PySem.W.nsIn K mainGlobals "_law_no_piece" = some (some (.ref f22)))
    (l22 : K.lookup f22 = some ⟨oc22, od22, .func (PySem.W.fnOf "_law_no_piece" "_law_no_piece" (defArgs s_l_no_piece) (defBody s_l_no_piece) (defScope s_l_no_piece) .none kV22 dc22 pm22 an22 cd22 ct22), sl22⟩) (c22 : PySem.W.codeIn K cd22 "_law_no_piece" = true) (k22 : PySem.W.keepIn K (.ref f22) = true)
    (a23 : PySem.W.nsIn K mainGlobals "_law_equal" = some (some (.ref f23)))
    (l23 : K.lookup f23 = some ⟨oc23, od23, .func (PySem.W.fnOf "_law_equal" "_law_equal" (defArgs s_l_equal) (defBody s_l_equal) (defScope s_l_equal) .none kV23 dc23 pm23 an23 cd23 ct23), sl23⟩) (c23 : PySem.W.codeIn K cd23 "_law_equal" = true) (k23 : PySem.W.keepIn K (.ref f23) = true)
    (a24 : PySem.W.nsIn K mainGlobals "_law_shows" = some (some (.ref f24)))
    (l24 : K.lookup f24 = some ⟨oc24, od24, .func (PySem.W.fnOf "_law_shows" "_law_shows" (defArgs s_l_shows) (defBody s_l_shows) (defScope s_l_shows) .none kV24 dc24 pm24 an24 cd24 ct24), sl24⟩) (c24 : PySem.W.codeIn K cd24 "_law_shows" = true) (k24 : PySem.W.keepIn K (.ref f24) = true)
    (a25 : PySem.W.nsIn K mainGlobals "_law_copied" = some (some (.ref f25)))
    (l25 : K.lookup f25 = some ⟨oc25, od25, .func (PySem.W.fnOf "_law_copied" "_law_copied" (defArgs s_l_copied) (defBody s_l_copied) (defScope s_l_copied) .none kV25 dc25 pm25 an25 cd25 ct25), sl25⟩) (c25 : PySem.W.codeIn K cd25 "_law_copied" = true) (k25 : PySem.W.keepIn K (.ref f25) = true)
    (a26 : PySem.W.nsIn K mainGlobals "_law_next" = some (some (.ref f26)))
    (l26 : K.lookup f26 = some ⟨oc26, od26, .func (PySem.W.fnOf "_law_next" "_law_next" (defArgs s_l_next) (defBody s_l_next) (defScope s_l_next) .none kV26 dc26 pm26 an26 cd26 ct26), sl26⟩) (c26 : PySem.W.codeIn K cd26 "_law_next" = true) (k26 : PySem.W.keepIn K (.ref f26) = true)
    (a27 : PySem.W.nsIn K mainGlobals "_law_near" = some (some (.ref f27)))
    (l27 : K.lookup f27 = some ⟨oc27, od27, .func (PySem.W.fnOf "_law_near" "_law_near" (defArgs s_l_near) (defBody s_l_near) (defScope s_l_near) .none kV27 dc27 pm27 an27 cd27 ct27), sl27⟩) (c27 : PySem.W.codeIn K cd27 "_law_near" = true) (k27 : PySem.W.keepIn K (.ref f27) = true)
    (a28 : PySem.W.nsIn K mainGlobals "_law_joins" = some (some (.ref f28)))
    (l28 : K.lookup f28 = some ⟨oc28, od28, .func (PySem.W.fnOf "_law_joins" "_law_joins" (defArgs s_l_joins) (defBody s_l_joins) (defScope s_l_joins) .none kV28 dc28 pm28 an28 cd28 ct28), sl28⟩) (c28 : PySem.W.codeIn K cd28 "_law_joins" = true) (k28 : PySem.W.keepIn K (.ref f28) = true)
    (a29 : PySem.W.nsIn K mainGlobals "law" = some (some (.ref f29)))
    (l29 : K.lookup f29 = some ⟨oc29, od29, .func (PySem.W.fnOf "law" "law" (defArgs s_law) (defBody s_law) (defScope s_law) .none kV29 dc29 pm29 an29 cd29 ct29), sl29⟩) (c29 : PySem.W.codeIn K cd29 "law" = true) (k29 : PySem.W.keepIn K (.ref f29) = true)
    (l30 : K.lookup f30 = some ⟨oc30, od30, .func (PySem.W.fnOf "__iter__" "Galley.__iter__" (defArgs s_Galley_iter) (defBody s_Galley_iter) (defScope s_Galley_iter) .none kV30 dc30 pm30 an30 cd30 ct30), sl30⟩) (c30 : PySem.W.codeIn K cd30 "Galley.__iter__" = true) (k30 : PySem.W.keepIn K (.ref f30) = true)
    (z_bool : PySem.W.nsIn K mainGlobals "bool" = some none)
    (z_enumerate : PySem.W.nsIn K mainGlobals "enumerate" = some none)
    (z_int : PySem.W.nsIn K mainGlobals "int" = some none)
    (z_isinstance : PySem.W.nsIn K mainGlobals "isinstance" = some none)
    (z_iter : PySem.W.nsIn K mainGlobals "iter" = some none)
    (z_len : PySem.W.nsIn K mainGlobals "len" = some none)
    (z_list : PySem.W.nsIn K mainGlobals "list" = some none)
    (z_max : PySem.W.nsIn K mainGlobals "max" = some none)
    (z_min : PySem.W.nsIn K mainGlobals "min" = some none)
    (z_range : PySem.W.nsIn K mainGlobals "range" = some none)
    (z_str : PySem.W.nsIn K mainGlobals "str" = some none)
    (z_tuple : PySem.W.nsIn K mainGlobals "tuple" = some none)
    (y_MOST_FIGURES : PySem.W.nsIn K mainGlobals "MOST_FIGURES" = some (some (.int 4 t_MOST_FIGURES)))
    (y_MOST_PIECES : PySem.W.nsIn K mainGlobals "MOST_PIECES" = some (some (.int 40 t_MOST_PIECES)))
    (x_LaidError : PySem.W.nsIn K mainGlobals "LaidError" = some (some (.ref A_LaidError)))
    (x_NoSuchNumber : PySem.W.nsIn K mainGlobals "NoSuchNumber" = some (some (.ref A_NoSuchNumber)))
    (x_TooLarge : PySem.W.nsIn K mainGlobals "TooLarge" = some (some (.ref A_TooLarge)))
    (X1_NoSuchNumber : K.lookup A_NoSuchNumber = some (excClassObj nm_NoSuchNumber qq_NoSuchNumber A_NoSuchNumber N_NoSuchNumber bs_NoSuchNumber bm_NoSuchNumber true sn_NoSuchNumber sb_NoSuchNumber ab_NoSuchNumber co_NoSuchNumber dd_NoSuchNumber m0_NoSuchNumber m1_NoSuchNumber m2_NoSuchNumber m3_NoSuchNumber m5_NoSuchNumber "ValueError.__new__")) (X2_NoSuchNumber : PySem.HandSPX.refsVE bm_NoSuchNumber = true)
    (X3_NoSuchNumber : PySem.W.findIn K (.ref A_NoSuchNumber) "__setattr__" = some (some (.builtin "object.__setattr__"))) (X4_NoSuchNumber : PySem.W.subIn K (.ref A_NoSuchNumber) (.type "BaseException") = some true) (X5_NoSuchNumber : PySem.W.typeIn K (.ref A_NoSuchNumber) = some (.type "type")) (X6_NoSuchNumber : PySem.W.keepIn K (.ref A_NoSuchNumber) = true)
    (X7_NoSuchNumber : PySem.W.findIn K (.ref A_NoSuchNumber) "__init__" = some (some (.ref fI_NoSuchNumber))) (X8_NoSuchNumber : PySem.W.typeIn K (.ref fI_NoSuchNumber) = some (.type "function")) (X9_NoSuchNumber : K.lookup fI_NoSuchNumber = some ⟨oc_NoSuchNumber, od_NoSuchNumber, .func (PySem.W.fnOf "__init__" "NoSuchNumber.__init__" (defArgs s_NoSuchNumber) (defBody s_NoSuchNumber) (defScope s_NoSuchNumber) .none kV_NoSuchNumber dc_NoSuchNumber pm_NoSuchNumber an_NoSuchNumber cd_NoSuchNumber ct_NoSuchNumber), sl_NoSuchNumber⟩) (Xa_NoSuchNumber : PySem.W.codeIn K cd_NoSuchNumber "NoSuchNumber.__init__" = true) (Xb_NoSuchNumber : PySem.W.keepIn K (.ref fI_NoSuchNumber) = true)
    (Y0_NoSuchNumber : PySem.W.findIn K (.ref A_NoSuchNumber) "number" = some none)
    (Xc_NoSuchNumber : PySem.W.findIn K (.ref A_NoSuchNumber) "__getattribute__" = some (some (.builtin "BaseException.__getattribute__"))) (Xd_NoSuchNumber : PySem.W.findIn K (.ref A_NoSuchNumber) "__getattr__" = some none) (Xe_NoSuchNumber : PySem.W.hasDictIn K A_NoSuchNumber = true)
    (Xf_NoSuchNumber : PySem.W.findIn K (.ref A_NoSuchNumber) "__class__" = some (some (.builtin "object.__class__"))) (Xg_NoSuchNumber : PySem.W.specialIn K (.builtin "object.__class__") "__get__" = some (some (.builtin "getset_descriptor.__get__"))) (Xh_NoSuchNumber : PySem.W.takesIn K (.builtin "object.__class__") = some true) (Xi_NoSuchNumber : PySem.W.mroIn K A_NoSuchNumber (.type "object") = some true)
    (E_NoSuchNumber_NoSuchNumber : PySem.W.exmOne K (.ref A_NoSuchNumber) (.ref A_NoSuchNumber) = some true)
    (E_NoSuchNumber_TooLarge : PySem.W.exmOne K (.ref A_NoSuchNumber) (.ref A_TooLarge) = some false)
    (Q_NoSuchNumber_LaidError : PySem.W.kitOne K (.ref A_NoSuchNumber) (.ref A_LaidError) = some true)
    (Q_NoSuchNumber_NoSuchNumber : PySem.W.kitOne K (.ref A_NoSuchNumber) (.ref A_NoSuchNumber) = some true)
    (Q_NoSuchNumber_TooLarge : PySem.W.kitOne K (.ref A_NoSuchNumber) (.ref A_TooLarge) = some false)
    (X1_TooLarge : K.lookup A_TooLarge = some (excClassObj nm_TooLarge qq_TooLarge A_TooLarge N_TooLarge bs_TooLarge bm_TooLarge true sn_TooLarge sb_TooLarge ab_TooLarge co_TooLarge dd_TooLarge m0_TooLarge m1_TooLarge m2_TooLarge m3_TooLarge m5_TooLarge "ValueError.__new__")) (X2_TooLarge : PySem.HandSPX.refsVE bm_TooLarge = true)
    (X3_TooLarge : PySem.W.findIn K (.ref A_TooLarge) "__setattr__" = some (some (.builtin "object.__setattr__"))) (X4_TooLarge : PySem.W.subIn K (.ref A_TooLarge) (.type "BaseException") = some true) (X5_TooLarge : PySem.W.typeIn K (.ref A_TooLarge) = some (.type "type")) (X6_TooLarge : PySem.W.keepIn K (.ref A_TooLarge) = true)
    (X7_TooLarge : PySem.W.findIn K (.ref A_TooLarge) "__init__" = some (some (.ref fI_TooLarge))) (X8_TooLarge : PySem.W.typeIn K (.ref fI_TooLarge) = some (.type "function")) (X9_TooLarge : K.lookup fI_TooLarge = some ⟨oc_TooLarge, od_TooLarge, .func (PySem.W.fnOf "__init__" "TooLarge.__init__" (defArgs s_TooLarge) (defBody s_TooLarge) (defScope s_TooLarge) .none kV_TooLarge dc_TooLarge pm_TooLarge an_TooLarge cd_TooLarge ct_TooLarge), sl_TooLarge⟩) (Xa_TooLarge : PySem.W.codeIn K cd_TooLarge "TooLarge.__init__" = true) (Xb_TooLarge : PySem.W.keepIn K (.ref fI_TooLarge) = true)
    (Y0_TooLarge : PySem.W.findIn K (.ref A_TooLarge) "many" = some none)
    (Xc_TooLarge : PySem.W.findIn K (.ref A_TooLarge) "__getattribute__" = some (some (.builtin "BaseException.__getattribute__"))) (Xd_TooLarge : PySem.W.findIn K (.ref A_TooLarge) "__getattr__" = some none) (Xe_TooLarge : PySem.W.hasDictIn K A_TooLarge = true)
    (Xf_TooLarge : PySem.W.findIn K (.ref A_TooLarge) "__class__" = some (some (.builtin "object.__class__"))) (Xg_TooLarge : PySem.W.specialIn K (.builtin "object.__class__") "__get__" = some (some (.builtin "getset_descriptor.__get__"))) (Xh_TooLarge : PySem.W.takesIn K (.builtin "object.__class__") = some true) (Xi_TooLarge : PySem.W.mroIn K A_TooLarge (.type "object") = some true)
    (E_TooLarge_NoSuchNumber : PySem.W.exmOne K (.ref A_TooLarge) (.ref A_NoSuchNumber) = some false)
    (E_TooLarge_TooLarge : PySem.W.exmOne K (.ref A_TooLarge) (.ref A_TooLarge) = some true)
    (Q_TooLarge_LaidError : PySem.W.kitOne K (.ref A_TooLarge) (.ref A_LaidError) = some true)
    (Q_TooLarge_NoSuchNumber : PySem.W.kitOne K (.ref A_TooLarge) (.ref A_NoSuchNumber) = some false)
    (Q_TooLarge_TooLarge : PySem.W.kitOne K (.ref A_TooLarge) (.ref A_TooLarge) = some true)
    (x_Galley : PySem.W.nsIn K mainGlobals "Galley" = some (some (.ref A_Galley))) (P1_Galley : PySem.W.plainGet K A_Galley Str.empty = true) (P2_Galley : PySem.W.hasDictIn K A_Galley = true) (P3_Galley : PySem.W.plainOver K A_Galley = true) (P4_Galley : PySem.W.findIn K (.ref A_Galley) "__setattr__" = some (some (.builtin "object.__setattr__")))
    (M1_Galley : PySem.W.makesIn K A_Galley = true) (M2_Galley : PySem.W.findIn K (.ref A_Galley) "__init__" = some (some (.ref f3))) (M3_Galley : PySem.W.isFn K (.ref f3) = true) (M4_Galley : PySem.W.keepIn K (.ref A_Galley) = true)
    (N_Galley_all_figures : PySem.W.findIn K (.ref A_Galley) "all_figures" = some none)
    (N_Galley_all_pieces : PySem.W.findIn K (.ref A_Galley) "all_pieces" = some none)
    (N_Galley_blocks : PySem.W.findIn K (.ref A_Galley) "blocks" = some none)
    (N_Galley_spans : PySem.W.findIn K (.ref A_Galley) "spans" = some none)
    (m1_Galley___add__ : PySem.W.findIn K (.ref A_Galley) "__add__" = some (some (.ref f6))) (m2_Galley___add__ : PySem.W.isFn K (.ref f6) = true)
    (m1_Galley___eq__ : PySem.W.findIn K (.ref A_Galley) "__eq__" = some (some (.ref f5))) (m2_Galley___eq__ : PySem.W.isFn K (.ref f5) = true)
    (m1_Galley___iadd__ : PySem.W.findIn K (.ref A_Galley) "__iadd__" = some (some (.ref f7))) (m2_Galley___iadd__ : PySem.W.isFn K (.ref f7) = true)
    (m1_Galley___iter__ : PySem.W.findIn K (.ref A_Galley) "__iter__" = some (some (.ref f30))) (m2_Galley___iter__ : PySem.W.isFn K (.ref f30) = true)
    (m1_Galley___len__ : PySem.W.findIn K (.ref A_Galley) "__len__" = some (some (.ref f4))) (m2_Galley___len__ : PySem.W.isFn K (.ref f4) = true)
    (m1_Galley_block_at : PySem.W.findIn K (.ref A_Galley) "block_at" = some (some (.ref f10))) (m2_Galley_block_at : PySem.W.isFn K (.ref f10) = true)
    (p1_Galley_figures : PySem.W.findIn K (.ref A_Galley) "figures" = some (some (.ref pp_Galley_figures))) (p2_Galley_figures : PySem.W.recIn K pp_Galley_figures "property" = some (.ref f9 :: pq_Galley_figures)) (p3_Galley_figures : PySem.W.specialIn K (.ref pp_Galley_figures) "__get__" = some (some (.builtin "property.__get__"))) (p4_Galley_figures : PySem.W.takesIn K (.ref pp_Galley_figures) = some true)
    (p1_Galley_pieces : PySem.W.findIn K (.ref A_Galley) "pieces" = some (some (.ref pp_Galley_pieces))) (p2_Galley_pieces : PySem.W.recIn K pp_Galley_pieces "property" = some (.ref f8 :: pq_Galley_pieces)) (p3_Galley_pieces : PySem.W.specialIn K (.ref pp_Galley_pieces) "__get__" = some (some (.builtin "property.__get__"))) (p4_Galley_pieces : PySem.W.takesIn K (.ref pp_Galley_pieces) = some true)
    (nf_Galley : PySem.W.notFirst K A_Galley (.ref A_Galley) = true)
    (sf_Galley : PySem.W.selfFirst K A_Galley = true)
    (I1_Galley : PySem.W.findIn K (.ref A_Galley) "__class__" = some (some (.builtin "object.__class__"))) (I2_Galley : PySem.W.specialIn K (.builtin "object.__class__") "__get__" = some (some (.builtin "getset_descriptor.__get__"))) (I3_Galley : PySem.W.takesIn K (.builtin "object.__class__") = some true) (I4_Galley : PySem.W.mroIn K A_Galley (.type "object") = some true) (Q_Galley_self : PySem.W.kitOne K (.ref A_Galley) (.ref A_Galley) = some true)
    (Q_Galley_NoneType : PySem.W.kitOne K (.type "NoneType") (.ref A_Galley) = some false)
    (Q_Galley_bool : PySem.W.kitOne K (.type "bool") (.ref A_Galley) = some false)
    (Q_Galley_int : PySem.W.kitOne K (.type "int") (.ref A_Galley) = some false)
    (Q_Galley_str : PySem.W.kitOne K (.type "str") (.ref A_Galley) = some false)
    (Q_Galley_list : PySem.W.kitOne K (.type "list") (.ref A_Galley) = some false)
    (Q_Galley_tuple : PySem.W.kitOne K (.type "tuple") (.ref A_Galley) = some false)
    (Q_Galley_dict : PySem.W.kitOne K (.type "dict") (.ref A_Galley) = some false)
    (W_Galley_NoneType : PySem.W.notFirst K A_Galley (.type "NoneType") = true)
    (W_Galley_bool : PySem.W.notFirst K A_Galley (.type "bool") = true)
    (W_Galley_int : PySem.W.notFirst K A_Galley (.type "int") = true)
    (W_Galley_str : PySem.W.notFirst K A_Galley (.type "str") = true)
    (W_Galley_list : PySem.W.notFirst K A_Galley (.type "list") = true)
    (W_Galley_tuple : PySem.W.notFirst K A_Galley (.type "tuple") = true)
    (W_Galley_dict : PySem.W.notFirst K A_Galley (.type "dict") = true) : ∃ T : Txt K mg, T.f_law = f29 ∧ T.fd_law = PySem.W.fnOf "law" "law" (defArgs s_law) (defBody s_law) (defScope s_law) .none kV29 dc29 pm29 an29 cd29 ct29 := by
  have F0 := fun_mk (st := s_pieces_in) l0 c0 k0
  have b0 := F0.binds (ps := ["blocks"]) fun _ _ _ _ _ _ us hl => match us, hl with | [_], _ => rfl
  have F1 := fun_mk (st := s_figures_in) l1 c1 k1
  have b1 := F1.binds (ps := ["blocks"]) fun _ _ _ _ _ _ us hl => match us, hl with | [_], _ => rfl
  have F2 := fun_mk (st := s_spans_in) l2 c2 k2
  have b2 := F2.binds (ps := ["blocks"]) fun _ _ _ _ _ _ us hl => match us, hl with | [_], _ => rfl
  have F3 := funE_mk (st := s_Galley_init) l3 c3 k3
  have b3 := binds_d (fd := PySem.W.fnOf "__init__" "Galley.__init__" (defArgs s_Galley_init) (defBody s_Galley_init) (defScope s_Galley_init) (.ref dtT3) kV3 dc3 pm3 an3 cd3 ct3) (ps := ["self", "blocks"]) (its := [.ref dtE3]) 2 1 lT3 rfl rfl fun us hl => match us, hl with | [_, _], _ => ⟨_, rfl, rfl⟩
  have bd3 := binds_d (fd := PySem.W.fnOf "__init__" "Galley.__init__" (defArgs s_Galley_init) (defBody s_Galley_init) (defScope s_Galley_init) (.ref dtT3) kV3 dc3 pm3 an3 cd3 ct3) (ps := ["self", "blocks"]) (its := [.ref dtE3]) 1 0 lT3 rfl rfl fun us hl => match us, hl with | [_], _ => ⟨_, rfl, rfl⟩
  have F4 := fun_mk (st := s_Galley_len) l4 c4 k4
  have b4 := F4.binds (ps := ["self"]) fun _ _ _ _ _ _ us hl => match us, hl with | [_], _ => rfl
  have F5 := fun_mk (st := s_Galley_eq) l5 c5 k5
  have b5 := F5.binds (ps := ["self", "other"]) fun _ _ _ _ _ _ us hl => match us, hl with | [_, _], _ => rfl
  have F6 := fun_mk (st := s_Galley_add) l6 c6 k6
  have b6 := F6.binds (ps := ["self", "other"]) fun _ _ _ _ _ _ us hl => match us, hl with | [_, _], _ => rfl
  have F7 := fun_mk (st := s_Galley_iadd) l7 c7 k7
  have b7 := F7.binds (ps := ["self", "other"]) fun _ _ _ _ _ _ us hl => match us, hl with | [_, _], _ => rfl
  have F8 := fun_mk (st := s_Galley_pieces) l8 c8 k8
  have b8 := F8.binds (ps := ["self"]) fun _ _ _ _ _ _ us hl => match us, hl with | [_], _ => rfl
  have F9 := fun_mk (st := s_Galley_figures) l9 c9 k9
  have b9 := F9.binds (ps := ["self"]) fun _ _ _ _ _ _ us hl => match us, hl with | [_], _ => rfl
  have F10 := fun_mk (st := s_Galley_block_at) l10 c10 k10
  have b10 := F10.binds (ps := ["self", "piece"]) fun _ _ _ _ _ _ us hl => match us, hl with | [_, _], _ => rfl
  have F11 := fun_mk (st := s_l_cell) l11 c11 k11
  have b11 := F11.binds (ps := ["_law_script", "_law_k"]) fun _ _ _ _ _ _ us hl => match us, hl with | [_, _], _ => rfl
  have F12 := fun_mk (st := s_l_row) l12 c12 k12
  have b12 := F12.binds (ps := ["_law_cell_here", "_law_limits"]) fun _ _ _ _ _ _ us hl => match us, hl with | [_, _], _ => rfl
  have F13 := fun_mk (st := s_l_number) l13 c13 k13
  have b13 := F13.binds (ps := ["_law_value"]) fun _ _ _ _ _ _ us hl => match us, hl with | [_], _ => rfl
  have F14 := fun_mk (st := s_l_same) l14 c14 k14
  have b14 := F14.binds (ps := ["_law_one", "_law_two"]) fun _ _ _ _ _ _ us hl => match us, hl with | [_, _], _ => rfl
  have F15 := fun_mk (st := s_l_made_piece) l15 c15 k15
  have b15 := F15.binds (ps := ["_law_row_here", "_law_last", "_law_left", "_law_tall"]) fun _ _ _ _ _ _ us hl => match us, hl with | [_, _, _, _], _ => rfl
  have F16 := fun_mk (st := s_l_made_blocks) l16 c16 k16
  have b16 := F16.binds (ps := ["_law_cells", "_law_many", "_law_cap", "_law_wide", "_law_tall"]) fun _ _ _ _ _ _ us hl => match us, hl with | [_, _, _, _, _], _ => rfl
  have F17 := fun_mk (st := s_l_cells_from) l17 c17 k17
  have b17 := F17.binds (ps := ["_law_script", "_law_at"]) fun _ _ _ _ _ _ us hl => match us, hl with | [_, _], _ => rfl
  have F18 := fun_mk (st := s_l_due) l18 c18 k18
  have b18 := F18.binds (ps := ["_law_blocks"]) fun _ _ _ _ _ _ us hl => match us, hl with | [_], _ => rfl
  have F19 := fun_mk (st := s_l_refused) l19 c19 k19
  have b19 := F19.binds (ps := ["_law_blocks", "_law_due_here"]) fun _ _ _ _ _ _ us hl => match us, hl with | [_, _], _ => rfl
  have F20 := fun_mk (st := s_l_sum_refused) l20 c20 k20
  have b20 := F20.binds (ps := ["_law_first", "_law_second", "_law_due_here"]) fun _ _ _ _ _ _ us hl => match us, hl with | [_, _, _], _ => rfl
  have F21 := fun_mk (st := s_l_added) l21 c21 k21
  have b21 := F21.binds (ps := ["_law_first", "_law_second", "_law_due_here"]) fun _ _ _ _ _ _ us hl => match us, hl with | [_, _, _], _ => rfl
  have F22 := fun_mk (st := s_l_no_piece) l22 c22 k22
  have b22 := F22.binds (ps := ["_law_galley", "_law_at"]) fun _ _ _ _ _ _ us hl => match us, hl with | [_, _], _ => rfl
  have F23 := fun_mk (st := s_l_equal) l23 c23 k23
  have b23 := F23.binds (ps := ["_law_one", "_law_two", "_law_due_here"]) fun _ _ _ _ _ _ us hl => match us, hl with | [_, _, _], _ => rfl
  have F24 := fun_mk (st := s_l_shows) l24 c24 k24
  have b24 := F24.binds (ps := ["_law_galley", "_law_blocks"]) fun _ _ _ _ _ _ us hl => match us, hl with | [_, _], _ => rfl
  have F25 := fun_mk (st := s_l_copied) l25 c25 k25
  have b25 := F25.binds (ps := ["_law_blocks"]) fun _ _ _ _ _ _ us hl => match us, hl with | [_], _ => rfl
  have F26 := fun_mk (st := s_l_next) l26 c26 k26
  have b26 := F26.binds (ps := ["_law_value"]) fun _ _ _ _ _ _ us hl => match us, hl with | [_], _ => rfl
  have F27 := fun_mk (st := s_l_near) l27 c27 k27
  have b27 := F27.binds (ps := ["_law_blocks", "_law_at", "_law_k"]) fun _ _ _ _ _ _ us hl => match us, hl with | [_, _, _], _ => rfl
  have F28 := fun_mk (st := s_l_joins) l28 c28 k28
  have b28 := F28.binds (ps := ["_law_one", "_law_two"]) fun _ _ _ _ _ _ us hl => match us, hl with | [_, _], _ => rfl
  have F29 := fun_mk (st := s_law) l29 c29 k29
  have b29 := F29.binds (ps := ["_law_script"]) fun _ _ _ _ _ _ us hl => match us, hl with | [_], _ => rfl
  have F30 := fun_mk (st := s_Galley_iter) l30 c30 k30
  have b30 := F30.binds (ps := ["self"]) fun _ _ _ _ _ _ us hl => match us, hl with | [_], _ => rfl
  have FI_NoSuchNumber := fun_mk (st := s_NoSuchNumber) X9_NoSuchNumber Xa_NoSuchNumber Xb_NoSuchNumber
  have bI_NoSuchNumber := FI_NoSuchNumber.binds (ps := ["self", "number"]) fun _ _ _ _ _ _ us hl => match us, hl with | [_, _], _ => rfl
  have FI_TooLarge := fun_mk (st := s_TooLarge) X9_TooLarge Xa_TooLarge Xb_TooLarge
  have bI_TooLarge := FI_TooLarge.binds (ps := ["self", "many"]) fun _ _ _ _ _ _ us hl => match us, hl with | [_, _], _ => rfl
  exact ⟨⟨f0, _, F0, PySem.W.mg_of X G a0, b0, f1, _, F1, PySem.W.mg_of X G a1, b1, f2, _, F2, PySem.W.mg_of X G a2, b2, f3, _, F3, b3, dtE3, bd3, (fun S => kt_nil (oc := .none) lE3 S), f4, _, F4, b4, f5, _, F5, b5, f6, _, F6, b6, f7, _, F7, b7, f8, _, F8, b8, f9, _, F9, b9, f10, _, F10, b10, f11, _, F11, PySem.W.mg_of X G a11, b11, f12, _, F12, PySem.W.mg_of X G a12, b12, f13, _, F13, PySem.W.mg_of X G a13, b13, f14, _, F14, PySem.W.mg_of X G a14, b14, f15, _, F15, PySem.W.mg_of X G a15, b15, f16, _, F16, PySem.W.mg_of X G a16, b16, f17, _, F17, PySem.W.mg_of X G a17, b17, f18, _, F18, PySem.W.mg_of X G a18, b18, f19, _, F19, PySem.W.mg_of X G a19, b19, f20, _, F20, PySem.W.mg_of X G a20, b20, f21, _, F21, PySem.W.mg_of X G a21, b21, f22, _, F22, PySem.W.mg_of X G a22, b22, f23, _, F23, PySem.W.mg_of X G a23, b23, f24, _, F24, PySem.W.mg_of X G a24, b24, f25, _, F25, PySem.W.mg_of X G a25, b25, f26, _, F26, PySem.W.mg_of X G a26, b26, f27, _, F27, PySem.W.mg_of X G a27, b27, f28, _, F28, PySem.W.mg_of X G a28, b28, f29, _, F29, PySem.W.mg_of X G a29, b29, f30, _, F30, b30, PySem.W.mg_none_of X G z_bool, PySem.W.mg_none_of X G z_enumerate, PySem.W.mg_none_of X G z_int, PySem.W.mg_none_of X G z_isinstance, PySem.W.mg_none_of X G z_iter, PySem.W.mg_none_of X G z_len, PySem.W.mg_none_of X G z_list, PySem.W.mg_none_of X G z_max, PySem.W.mg_none_of X G z_min, PySem.W.mg_none_of X G z_range, PySem.W.mg_none_of X G z_str, PySem.W.mg_none_of X G z_tuple, _, PySem.W.mg_of X G y_MOST_FIGURES, _, PySem.W.mg_of X G y_MOST_PIECES, A_LaidError, PySem.W.mg_of X G x_LaidError, A_NoSuchNumber, PySem.W.mg_of X G x_NoSuchNumber, A_TooLarge, PySem.W.mg_of X G x_TooLarge, ⟨⟨_, _, _, _, _, _, _, _, _, _, _, _, _, _, _, X1_NoSuchNumber, X2_NoSuchNumber⟩, X3_NoSuchNumber, X4_NoSuchNumber, X5_NoSuchNumber, X6_NoSuchNumber⟩, fI_NoSuchNumber, _, X7_NoSuchNumber, X8_NoSuchNumber, FI_NoSuchNumber, bI_NoSuchNumber, Y0_NoSuchNumber, ⟨Xc_NoSuchNumber, Xd_NoSuchNumber, X4_NoSuchNumber, Xe_NoSuchNumber⟩, ⟨Xc_NoSuchNumber, Xd_NoSuchNumber, X4_NoSuchNumber, Xe_NoSuchNumber, Xf_NoSuchNumber, Xg_NoSuchNumber, Xh_NoSuchNumber, Xi_NoSuchNumber⟩, E_NoSuchNumber_NoSuchNumber, E_NoSuchNumber_TooLarge, Q_NoSuchNumber_LaidError, Q_NoSuchNumber_NoSuchNumber, Q_NoSuchNumber_TooLarge, ⟨⟨_, _, _, _, _, _, _, _, _, _, _, _, _, _, _, X1_TooLarge, X2_TooLarge⟩, X3_TooLarge, X4_TooLarge, X5_TooLarge, X6_TooLarge⟩, fI_TooLarge, _, X7_TooLarge, X8_TooLarge, FI_TooLarge, bI_TooLarge, Y0_TooLarge, ⟨Xc_TooLarge, Xd_TooLarge, X4_TooLarge, Xe_TooLarge⟩, ⟨Xc_TooLarge, Xd_TooLarge, X4_TooLarge, Xe_TooLarge, Xf_TooLarge, Xg_TooLarge, Xh_TooLarge, Xi_TooLarge⟩, E_TooLarge_NoSuchNumber, E_TooLarge_TooLarge, Q_TooLarge_LaidError, Q_TooLarge_NoSuchNumber, Q_TooLarge_TooLarge, A_Galley, PySem.W.mg_of X G x_Galley, ⟨P1_Galley, P2_Galley, P3_Galley, P4_Galley⟩, ⟨M1_Galley, M2_Galley, M3_Galley, M4_Galley⟩, N_Galley_all_figures, N_Galley_all_pieces, N_Galley_blocks, N_Galley_spans, ⟨m1_Galley___add__, m2_Galley___add__, k6⟩, ⟨m1_Galley___eq__, m2_Galley___eq__, k5⟩, ⟨m1_Galley___iadd__, m2_Galley___iadd__, k7⟩, ⟨m1_Galley___iter__, m2_Galley___iter__, k30⟩, ⟨m1_Galley___len__, m2_Galley___len__, k4⟩, ⟨m1_Galley_block_at, m2_Galley_block_at, k10⟩, pp_Galley_figures, ⟨p1_Galley_figures, p3_Galley_figures, p4_Galley_figures, ⟨_, p2_Galley_figures⟩⟩, pp_Galley_pieces, ⟨p1_Galley_pieces, p3_Galley_pieces, p4_Galley_pieces, ⟨_, p2_Galley_pieces⟩⟩, nf_Galley, sf_Galley, ⟨⟨P1_Galley, P2_Galley, P3_Galley, P4_Galley⟩, I1_Galley, I2_Galley, I3_Galley, I4_Galley, Q_Galley_self, tyAll_of Q_Galley_NoneType Q_Galley_bool Q_Galley_int Q_Galley_str Q_Galley_list Q_Galley_tuple Q_Galley_dict⟩, (tyAll_of W_Galley_NoneType W_Galley_bool W_Galley_int W_Galley_str W_Galley_list W_Galley_tuple W_Galley_dict)⟩, rfl, rfl⟩
def spLaw (K : PySem.W.Frag) : Sp := fun vs H Q _ => ∃ (a : Addr) (ns : List Int), vs = [.ref a] ∧ SqL K H a (ns.map V.int) ∧ ns.length ≤ 63 ∧ ∀ H', Q (.bl true) H'
theorem ok_end {P : Program} {w : World} {K : PySem.W.Frag} {mg : Str → Option Value} {base : Heap} (T : Txt K mg) : FnOk P w K mg base (L2N.CX P w) 12 T.f_law T.fd_law ["_law_script"] (spLaw K) := FnOk.imp (ok_law T) fun vs H Q E ⟨a, ns, e, hS, hl, k⟩ => by
  subst e
  exact law_sp (law_true ns hl) hS k
theorem all_mk {l : PySem.W.OpenLaw} {w : World} {K : PySem.W.Frag} {h : Heap} {mg : Str → Option Value} {fa : Addr} (X : K.In h) (G : h.Ns mainGlobals mg) (hfa : mg "law" = some (.ref fa))
    {f0 : Addr} {oc0 kV0 dc0 pm0 cd0 ct0 : Value} {od0 an0 : Option Addr} {sl0 : Array (Option Value)}
    {f1 : Addr} {oc1 kV1 dc1 pm1 cd1 ct1 : Value} {od1 an1 : Option Addr} {sl1 : Array (Option Value)}
    {f2 : Addr} {oc2 kV2 dc2 pm2 cd2 ct2 : Value} {od2 an2 : Option Addr} {sl2 : Array (Option Value)}
    {f3 : Addr} {oc3 kV3 dc3 pm3 cd3 ct3 : Value} {od3 an3 : Option Addr} {sl3 : Array (Option Value)}
    {dtT3 dtE3 : Addr} {ocT3 : Value} {odT3 odE3 : Option Addr} {nT3 nE3 : Nat} {slT3 slE3 : Array (Option Value)}
    {f4 : Addr} {oc4 kV4 dc4 pm4 cd4 ct4 : Value} {od4 an4 : Option Addr} {sl4 : Array (Option Value)}
    {f5 : Addr} {oc5 kV5 dc5 pm5 cd5 ct5 : Value} {od5 an5 : Option Addr} {sl5 : Array (Option Value)}
    {f6 : Addr} {oc6 kV6 dc6 pm6 cd6 ct6 : Value} {od6 an6 : Option Addr} {sl6 : Array (Option Value)}
    {f7 : Addr} {oc7 kV7 dc7 pm7 cd7 ct7 : Value} {od7 an7 : Option Addr} {sl7 : Array (Option Value)}
    {f8 : Addr} {oc8 kV8 dc8 pm8 cd8 ct8 : Value} {od8 an8 : Option Addr} {sl8 : Array (Option Value)}
    {f9 : Addr} {oc9 kV9 dc9 pm9 cd9 ct9 : Value} {od9 an9 : Option Addr} {sl9 : Array (Option Value)}
    {f10 : Addr} {oc10 kV10 dc10 pm10 cd10 ct10 : Value} {od10 an10 : Option Addr} {sl10 : Array (Option Value)}
    {f11 : Addr} {oc11 kV11 dc11 pm11 cd11 ct11 : Value} {od11 an11 : Option Addr} {sl11 : Array (Option Value)}
    {f12 : Addr} {oc12 kV12 dc12 pm12 cd12 ct12 : Value} {od12 an12 : Option Addr} {sl12 : Array (Option Value)}
    {f13 : Addr} {oc13 kV13 dc13 pm13 cd13 ct13 : Value} {od13 an13 : Option Addr} {sl13 : Array (Option Value)}
    {f14 : Addr} {oc14 kV14 dc14 pm14 cd14 ct14 : Value} {od14 an14 : Option Addr} {sl14 : Array (Option Value)}
    {f15 : Addr} {oc15 kV15 dc15 pm15 cd15 ct15 : Value} {od15 an15 : Option Addr} {sl15 : Array (Option Value)}
    {f16 : Addr} {oc16 kV16 dc16 pm16 cd16 ct16 : Value} {od16 an16 : Option Addr} {sl16 : Array (Option Value)}
    {f17 : Addr} {oc17 kV17 dc17 pm17 cd17 ct17 : Value} {od17 an17 : Option Addr} {sl17 : Array (Option Value)}
    {f18 : Addr} {oc18 kV18 dc18 pm18 cd18 ct18 : Value} {od18 an18 : Option Addr} {sl18 : Array (Option Value)}
    {f19 : Addr} {oc19 kV19 dc19 pm19 cd19 ct19 : Value} {od19 an19 : Option Addr} {sl19 : Array (Option Value)}
    {f20 : Addr} {oc20 kV20 dc20 pm20 cd20 ct20 : Value} {od20 an20 : Option Addr} {sl20 : Array (Option Value)}
    {f21 : Addr} {oc21 kV21 dc21 pm21 cd21 ct21 : Value} {od21 an21 : Option Addr} {sl21 : Array (Option Value)}
    {f22 : Addr} {oc22 kV22 dc22 pm22 cd22 ct22 : Value} {od22 an22 : Option Addr} {sl22 : Array (Option Value)}
    {f23 : Addr} {oc23 kV23 dc23 pm23 cd23 ct23 : Value} {od23 an23 : Option Addr} {sl23 : Array (Option Value)}
    {f24 : Addr} {oc24 kV24 dc24 pm24 cd24 ct24 : Value} {od24 an24 : Option Addr} {sl24 : Array (Option Value)}
    {f25 : Addr} {oc25 kV25 dc25 pm25 cd25 ct25 : Value} {od25 an25 : Option Addr} {sl25 : Array (Option Value)}
    {f26 : Addr} {oc26 kV26 dc26 pm26 cd26 ct26 : Value} {od26 an26 : Option Addr} {sl26 : Array (Option Value)}
    {f27 : Addr} {oc27 kV27 dc27 pm27 cd27 ct27 : Value} {od27 an27 : Option Addr} {sl27 : Array (Option Value)}
    {f28 : Addr} {oc28 kV28 dc28 pm28 cd28 ct28 : Value} {od28 an28 : Option Addr} {sl28 : Array (Option Value)}
    {f29 : Addr} {oc29 kV29 dc29 pm29 cd29 ct29 : Value} {od29 an29 : Option Addr} {sl29 : Array (Option Value)}
    {f30 : Addr} {oc30 kV30 dc30 pm30 cd30 ct30 : Value} {od30 an30 : Option Addr} {sl30 : Array (Option Value)}
    {t_MOST_FIGURES : Tok}
    {t_MOST_PIECES : Tok}
    {A_LaidError : Addr}
    {A_NoSuchNumber : Addr}
    {A_TooLarge : Addr}
    {nm_NoSuchNumber qq_NoSuchNumber : Str} {N_NoSuchNumber fI_NoSuchNumber : Addr} {bs_NoSuchNumber bm_NoSuchNumber : List Value} {sn_NoSuchNumber : List Str} {sb_NoSuchNumber : List Value} {ab_NoSuchNumber : Bool} {co_NoSuchNumber : Option Bool} {dd_NoSuchNumber od_NoSuchNumber an_NoSuchNumber : Option Addr} {m0_NoSuchNumber m1_NoSuchNumber m2_NoSuchNumber m3_NoSuchNumber m5_NoSuchNumber : Option Value} {oc_NoSuchNumber kV_NoSuchNumber dc_NoSuchNumber pm_NoSuchNumber cd_NoSuchNumber ct_NoSuchNumber : Value} {sl_NoSuchNumber : Array (Option Value)}
    {nm_TooLarge qq_TooLarge : Str} {N_TooLarge fI_TooLarge : Addr} {bs_TooLarge bm_TooLarge : List Value} {sn_TooLarge : List Str} {sb_TooLarge : List Value} {ab_TooLarge : Bool} {co_TooLarge : Option Bool} {dd_TooLarge od_TooLarge an_TooLarge : Option Addr} {m0_TooLarge m1_TooLarge m2_TooLarge m3_TooLarge m5_TooLarge : Option Value} {oc_TooLarge kV_TooLarge dc_TooLarge pm_TooLarge cd_TooLarge ct_TooLarge : Value} {sl_TooLarge : Array (Option Value)}
    {A_Galley : Addr}
    {pp_Galley_figures : Addr} {pq_Galley_figures : List Value}
    {pp_Galley_pieces : Addr} {pq_Galley_pieces : List Value}
    (a0 : PySem.W.nsIn K mainGlobals "pieces_in" = some (some (.ref f0)))
    (l0 : K.lookup f0 = some ⟨oc0, od0, .func (PySem.W.fnOf "pieces_in" "pieces_in" (defArgs s_pieces_in) (defBody s_pieces_in) (defScope s_pieces_in) .none kV0 dc0 pm0 an0 cd0 ct0), sl0⟩) (c0 : PySem.W.codeIn K cd0 "pieces_in" = true) (k0 : PySem.W.keepIn K (.ref f0) = true)
    (a1 : PySem.W.nsIn K mainGlobals "figures_in" = some (some (.ref f1)))
    (l1 : K.lookup f1 = some ⟨oc1, od1, .func (PySem.W.fnOf "figures_in" "figures_in" (defArgs s_figures_in) (defBody s_figures_in) (defScope s_figures_in) .none kV1 dc1 pm1 an1 cd1 ct1), sl1⟩) (c1 : PySem.W.codeIn K cd1 "figures_in" = true) (k1 : PySem.W.keepIn K (.ref f1) = true)
    (a2 : PySem.W.nsIn K mainGlobals "spans_in" = some (some (.ref f2)))
    (l2 : K.lookup f2 = some ⟨oc2, od2, .func (PySem.W.fnOf "spans_in" "spans_in" (defArgs s_spans_in) (defBody s_spans_in) (defScope s_spans_in) .none kV2 dc2 pm2 an2 cd2 ct2), sl2⟩) (c2 : PySem.W.codeIn K cd2 "spans_in" = true) (k2 : PySem.W.keepIn K (.ref f2) = true)
    (l3 : K.lookup f3 = some ⟨oc3, od3, .func (PySem.W.fnOf "__init__" "Galley.__init__" (defArgs s_Galley_init) (defBody s_Galley_init) (defScope s_Galley_init) (.ref dtT3) kV3 dc3 pm3 an3 cd3 ct3), sl3⟩) (c3 : PySem.W.codeIn K cd3 "Galley.__init__" = true) (k3 : PySem.W.keepIn K (.ref f3) = true)
    (lT3 : K.lookup dtT3 = some ⟨ocT3, odT3, .seq #[.ref dtE3] nT3, slT3⟩) (lE3 : K.lookup dtE3 = some ⟨.type "tuple", odE3, .seq #[] nE3, slE3⟩)
    (l4 : K.lookup f4 = some ⟨oc4, od4, .func (PySem.W.fnOf "__len__" "Galley.__len__" (defArgs s_Galley_len) (defBody s_Galley_len) (defScope s_Galley_len) .none kV4 dc4 pm4 an4 cd4 ct4), sl4⟩) (c4 : PySem.W.codeIn K cd4 "Galley.__len__" = true) (k4 : PySem.W.keepIn K (.ref f4) = true)
    (l5 : K.lookup f5 = some ⟨oc5, od5, .func (PySem.W.fnOf "__eq__" "Galley.__eq__" (defArgs s_Galley_eq) (defBody s_Galley_eq) (defScope s_Galley_eq) .none kV5 dc5 pm5 an5 cd5 ct5), sl5⟩) (c5 : PySem.W.codeIn K cd5 "Galley.__eq__" = true) (k5 : PySem.W.keepIn K (.ref f5) = true)
    (l6 : K.lookup f6 = some ⟨oc6, od6, .func (PySem.W.fnOf "__add__" "Galley.__add__" (defArgs s_Galley_add) (defBody s_Galley_add) (defScope s_Galley_add) .none kV6 dc6 pm6 an6 cd6 ct6), sl6⟩) (c6 : PySem.W.codeIn K cd6 "Galley.__add__" = true) (k6 : PySem.W.keepIn K (.ref f6) = true)
    (l7 : K.lookup f7 = some ⟨oc7, od7, .func (PySem.W.fnOf "__iadd__" "Galley.__iadd__" (defArgs s_Galley_iadd) (defBody s_Galley_iadd) (defScope s_Galley_iadd) .none kV7 dc7 pm7 an7 cd7 ct7), sl7⟩) (c7 : PySem.W.codeIn K cd7 "Galley.__iadd__" = true) (k7 : PySem.W.keepIn K (.ref f7) = true)
    (l8 : K.lookup f8 = some ⟨oc8, od8, .func (PySem.W.fnOf "pieces" "Galley.pieces" (defArgs s_Galley_pieces) (defBody s_Galley_pieces) (defScope s_Galley_pieces) .none kV8 dc8 pm8 an8 cd8 ct8), sl8⟩) (c8 : PySem.W.codeIn K cd8 "Galley.pieces" = true) (k8 : PySem.W.keepIn K (.ref f8) = true)
    (l9 : K.lookup f9 = some ⟨oc9, od9, .func (PySem.W.fnOf "figures" "Galley.figures" (defArgs s_Galley_figures) (defBody s_Galley_figures) (defScope s_Galley_figures) .none kV9 dc9 pm9 an9 cd9 ct9), sl9⟩) (c9 : PySem.W.codeIn K cd9 "Galley.figures" = true) (k9 : PySem.W.keepIn K (.ref f9) = true)
    (l10 : K.lookup f10 = some ⟨oc10, od10, .func (PySem.W.fnOf "block_at" "Galley.block_at" (defArgs s_Galley_block_at) (defBody s_Galley_block_at) (defScope s_Galley_block_at) .none kV10 dc10 pm10 an10 cd10 ct10), sl10⟩) (c10 : PySem.W.codeIn K cd10 "Galley.block_at" = true) (k10 : PySem.W.keepIn K (.ref f10) = true)
    (a11 : PySem.W.nsIn K mainGlobals "_law_cell" = some (some (.ref f11)))
    (l11 : K.lookup f11 = some ⟨oc11, od11, .func (PySem.W.fnOf "_law_cell" "_law_cell" (defArgs s_l_cell) (defBody s_l_cell) (defScope s_l_cell) .none kV11 dc11 pm11 an11 cd11 ct11), sl11⟩) (c11 : PySem.W.codeIn K cd11 "_law_cell" = true) (k11 : PySem.W.keepIn K (.ref f11) = true)
    (a12 : PySem.W.nsIn K mainGlobals "_law_row" = some (some (.ref f12)))
    (l12 : K.lookup f12 = some ⟨oc12, od12, .func (PySem.W.fnOf "_law_row" "_law_row" (defArgs s_l_row) (defBody s_l_row) (defScope s_l_row) .none kV12 dc12 pm12 an12 cd12 ct12), sl12⟩) (c12 : PySem.W.codeIn K cd12 "_law_row" = true) (k12 : PySem.W.keepIn K (.ref f12) = true)
    (a13 : PySem.W.nsIn K mainGlobals "_law_number" = some (some (.ref f13)))
    (l13 : K.lookup f13 = some ⟨oc13, od13, .func (PySem.W.fnOf "_law_number" "_law_number" (defArgs s_l_number) (defBody s_l_number) (defScope s_l_number) .none kV13 dc13 pm13 an13 cd13 ct13), sl13⟩) (c13 : PySem.W.codeIn K cd13 "_law_number" = true) (k13 : PySem.W.keepIn K (.ref f13) = true)
    (a14 : PySem.W.nsIn K mainGlobals "_law_same" = some (some (.ref f14)))
    (l14 : K.lookup f14 = some ⟨oc14, od14, .func (PySem.W.fnOf "_law_same" "_law_same" (defArgs s_l_same) (defBody s_l_same) (defScope s_l_same) .none kV14 dc14 pm14 an14 cd14 ct14), sl14⟩) (c14 : PySem.W.codeIn K cd14 "_law_same" = true) (k14 : PySem.W.keepIn K (.ref f14) = true)
    (a15 : PySem.W.nsIn K mainGlobals "_law_made_piece" = some (some (.ref f15)))
    (l15 : K.lookup f15 = some ⟨oc15, od15, .func (PySem.W.fnOf "_law_made_piece" "_law_made_piece" (defArgs s_l_made_piece) (defBody s_l_made_piece) (defScope s_l_made_piece) .none kV15 dc15 pm15 an15 cd15 ct15), sl15⟩) (c15 : PySem.W.codeIn K cd15 "_law_made_piece" = true) (k15 : PySem.W.keepIn K (.ref f15) = true)
    (a16 : PySem.W.nsIn K mainGlobals "_law_made_blocks" = some (some (.ref f16)))
    (l16 : K.lookup f16 = some ⟨oc16, od16, .func (PySem.W.fnOf "_law_made_blocks" "_law_made_blocks" (defArgs s_l_made_blocks) (defBody s_l_made_blocks) (defScope s_l_made_blocks) .none kV16 dc16 pm16 an16 cd16 ct16), sl16⟩) (c16 : PySem.W.codeIn K cd16 "_law_made_blocks" = true) (k16 : PySem.W.keepIn K (.ref f16) = true)
    (a17 : PySem.W.nsIn K mainGlobals "_law_cells_from" = some (some (.ref f17)))
    (l17 : K.lookup f17 = some ⟨oc17, od17, .func (PySem.W.fnOf "_law_cells_from" "_law_cells_from" (defArgs s_l_cells_from) (defBody s_l_cells_from) (defScope s_l_cells_from) .none kV17 dc17 pm17 an17 cd17 ct17), sl17⟩) (c17 : PySem.W.codeIn K cd17 "_law_cells_from" = true) (k17 : PySem.W.keepIn K (.ref f17) = true)
    (a18 : PySem.W.nsIn K mainGlobals "_law_due" = some (some (.ref f18)))
    (l18 : K.lookup f18 = some ⟨oc18, od18, .func (PySem.W.fnOf "_law_due" "_law_due" (defArgs s_l_due) (defBody s_l_due) (defScope s_l_due) .none kV18 dc18 pm18 an18 cd18 ct18), sl18⟩) (c18 : PySem.W.codeIn K cd18 "_law_due" = true) (k18 : PySem.W.keepIn K (.ref f18) = true)
    (a19 : PySem.W.nsIn K mainGlobals "_law_refused" = some (some (.ref f19)))
    (l19 : K.lookup f19 = some ⟨oc19, od19, .func (PySem.W.fnOf "_law_refused" "_law_refused" (defArgs s_l_refused) (defBody s_l_refused) (defScope s_l_refused) .none kV19 dc19 pm19 an19 cd19 ct19), sl19⟩) (c19 : PySem.W.codeIn K cd19 "_law_refused" = true) (k19 : PySem.W.keepIn K (.ref f19) = true)
    (a20 : PySem.W.nsIn K mainGlobals "_law_sum_refused" = some (some (.ref f20)))
    (l20 : K.lookup f20 = some ⟨oc20, od20, .func (PySem.W.fnOf "_law_sum_refused" "_law_sum_refused" (defArgs s_l_sum_refused) (defBody s_l_sum_refused) (defScope s_l_sum_refused) .none kV20 dc20 pm20 an20 cd20 ct20), sl20⟩) (c20 : PySem.W.codeIn K cd20 "_law_sum_refused" = true) (k20 : PySem.W.keepIn K (.ref f20) = true)
    (a21 : PySem.W.nsIn K mainGlobals "_law_added" = some (some (.ref f21)))
    (l21 : K.lookup f21 = some ⟨oc21, od21, .func (PySem.W.fnOf "_law_added" "_law_added" (defArgs s_l_added) (defBody s_l_added) (defScope s_l_added) .none kV21 dc21 pm21 an21 cd21 ct21), sl21⟩) (c21 : PySem.W.codeIn K cd21 "_law_added" = true) (k21 : PySem.W.keepIn K (.ref f21) = true)
    (a22 : PySem.W.nsIn K mainGlobals "_law_no_piece" = some (some (.ref f22)))
    (l22 : K.lookup f22 = some ⟨oc22, od22, .func (PySem.W.fnOf "_law_no_piece" "_law_no_piece" (defArgs s_l_no_piece) (defBody s_l_no_piece) (defScope s_l_no_piece) .none kV22 dc22 pm22 an22 cd22 ct22), sl22⟩) (c22 : PySem.W.codeIn K cd22 "_law_no_piece" = true) (k22 : PySem.W.keepIn K (.ref f22) = true)
    (a23 : PySem.W.nsIn K mainGlobals "_law_equal" = some (some (.ref f23)))
    (l23 : K.lookup f23 = some ⟨oc23, od23, .func (PySem.W.fnOf "_law_equal" "_law_equal" (defArgs s_l_equal) (defBody s_l_equal) (defScope s_l_equal) .none kV23 dc23 pm23 an23 cd23 ct23), sl23⟩) (c23 : PySem.W.codeIn K cd23 "_law_equal" = true) (k23 : PySem.W.keepIn K (.ref f23) = true)
    (a24 : PySem.W.nsIn K mainGlobals "_law_shows" = some (some (.ref f24)))
    (l24 : K.lookup f24 = some ⟨oc24, od24, .func (PySem.W.fnOf "_law_shows" "_law_shows" (defArgs s_l_shows) (defBody s_l_shows) (defScope s_l_shows) .none kV24 dc24 pm24 an24 cd24 ct24), sl24⟩) (c24 : PySem.W.codeIn K cd24 "_law_shows" = true) (k24 : PySem.W.keepIn K (.ref f24) = true)
    (a25 : PySem.W.nsIn K mainGlobals "_law_copied" = some (some (.ref f25)))
    (l25 : K.lookup f25 = some ⟨oc25, od25, .func (PySem.W.fnOf "_law_copied" "_law_copied" (defArgs s_l_copied) (defBody s_l_copied) (defScope s_l_copied) .none kV25 dc25 pm25 an25 cd25 ct25), sl25⟩) (c25 : PySem.W.codeIn K cd25 "_law_copied" = true) (k25 : PySem.W.keepIn K (.ref f25) = true)
    (a26 : PySem.W.nsIn K mainGlobals "_law_next" = some (some (.ref f26)))
    (l26 : K.lookup f26 = some ⟨oc26, od26, .func (PySem.W.fnOf "_law_next" "_law_next" (defArgs s_l_next) (defBody s_l_next) (defScope s_l_next) .none kV26 dc26 pm26 an26 cd26 ct26), sl26⟩) (c26 : PySem.W.codeIn K cd26 "_law_next" = true) (k26 : PySem.W.keepIn K (.ref f26) = true)
    (a27 : PySem.W.nsIn K mainGlobals "_law_near" = some (some (.ref f27)))
    (l27 : K.lookup f27 = some ⟨oc27, od27, .func (PySem.W.fnOf "_law_near" "_law_near" (defArgs s_l_near) (defBody s_l_near) (defScope s_l_near) .none kV27 dc27 pm27 an27 cd27 ct27), sl27⟩) (c27 : PySem.W.codeIn K cd27 "_law_near" = true) (k27 : PySem.W.keepIn K (.ref f27) = true)
    (a28 : PySem.W.nsIn K mainGlobals "_law_joins" = some (some (.ref f28)))
    (l28 : K.lookup f28 = some ⟨oc28, od28, .func (PySem.W.fnOf "_law_joins" "_law_joins" (defArgs s_l_joins) (defBody s_l_joins) (defScope s_l_joins) .none kV28 dc28 pm28 an28 cd28 ct28), sl28⟩) (c28 : PySem.W.codeIn K cd28 "_law_joins" = true) (k28 : PySem.W.keepIn K (.ref f28) = true)
    (a29 : PySem.W.nsIn K mainGlobals "law" = some (some (.ref f29)))
    (l29 : K.lookup f29 = some ⟨oc29, od29, .func (PySem.W.fnOf "law" "law" (defArgs s_law) (defBody s_law) (defScope s_law) .none kV29 dc29 pm29 an29 cd29 ct29), sl29⟩) (c29 : PySem.W.codeIn K cd29 "law" = true) (k29 : PySem.W.keepIn K (.ref f29) = true)
    (l30 : K.lookup f30 = some ⟨oc30, od30, .func (PySem.W.fnOf "__iter__" "Galley.__iter__" (defArgs s_Galley_iter) (defBody s_Galley_iter) (defScope s_Galley_iter) .none kV30 dc30 pm30 an30 cd30 ct30), sl30⟩) (c30 : PySem.W.codeIn K cd30 "Galley.__iter__" = true) (k30 : PySem.W.keepIn K (.ref f30) = true)
    (z_bool : PySem.W.nsIn K mainGlobals "bool" = some none)
    (z_enumerate : PySem.W.nsIn K mainGlobals "enumerate" = some none)
    (z_int : PySem.W.nsIn K mainGlobals "int" = some none)
    (z_isinstance : PySem.W.nsIn K mainGlobals "isinstance" = some none)
    (z_iter : PySem.W.nsIn K mainGlobals "iter" = some none)
    (z_len : PySem.W.nsIn K mainGlobals "len" = some none)
    (z_list : PySem.W.nsIn K mainGlobals "list" = some none)
    (z_max : PySem.W.nsIn K mainGlobals "max" = some none)
    (z_min : PySem.W.nsIn K mainGlobals "min" = some none)
    (z_range : PySem.W.nsIn K mainGlobals "range" = some none)
    (z_str : PySem.W.nsIn K mainGlobals "str" = some none)
    (z_tuple : PySem.W.nsIn K mainGlobals "tuple" = some none)
    (y_MOST_FIGURES : PySem.W.nsIn K mainGlobals "MOST_FIGURES" = some (some (.int 4 t_MOST_FIGURES)))
    (y_MOST_PIECES : PySem.W.nsIn K mainGlobals "MOST_PIECES" = some (some (.int 40 t_MOST_PIECES)))
    (x_LaidError : PySem.W.nsIn K mainGlobals "LaidError" = some (some (.ref A_LaidError)))
    (x_NoSuchNumber : PySem.W.nsIn K mainGlobals "NoSuchNumber" = some (some (.ref A_NoSuchNumber)))
    (x_TooLarge : PySem.W.nsIn K mainGlobals "TooLarge" = some (some (.ref A_TooLarge)))
    (X1_NoSuchNumber : K.lookup A_NoSuchNumber = some (excClassObj nm_NoSuchNumber qq_NoSuchNumber A_NoSuchNumber N_NoSuchNumber bs_NoSuchNumber bm_NoSuchNumber true sn_NoSuchNumber sb_NoSuchNumber ab_NoSuchNumber co_NoSuchNumber dd_NoSuchNumber m0_NoSuchNumber m1_NoSuchNumber m2_NoSuchNumber m3_NoSuchNumber m5_NoSuchNumber "ValueError.__new__")) (X2_NoSuchNumber : PySem.HandSPX.refsVE bm_NoSuchNumber = true)
    (X3_NoSuchNumber : PySem.W.findIn K (.ref A_NoSuchNumber) "__setattr__" = some (some (.builtin "object.__setattr__"))) (X4_NoSuchNumber : PySem.W.subIn K (.ref A_NoSuchNumber) (.type "BaseException") = some true) (X5_NoSuchNumber : PySem.W.typeIn K (.ref A_NoSuchNumber) = some (.type "type")) (X6_NoSuchNumber : PySem.W.keepIn K (.ref A_NoSuchNumber) = true)
    (X7_NoSuchNumber : PySem.W.findIn K (.ref A_NoSuchNumber) "__init__" = some (some (.ref fI_NoSuchNumber))) (X8_NoSuchNumber : PySem.W.typeIn K (.ref fI_NoSuchNumber) = some (.type "function")) (X9_NoSuchNumber : K.lookup fI_NoSuchNumber = some ⟨oc_NoSuchNumber, od_NoSuchNumber, .func (PySem.W.fnOf "__init__" "NoSuchNumber.__init__" (defArgs s_NoSuchNumber) (defBody s_NoSuchNumber) (defScope s_NoSuchNumber) .none kV_NoSuchNumber dc_NoSuchNumber pm_NoSuchNumber an_NoSuchNumber cd_NoSuchNumber ct_NoSuchNumber), sl_NoSuchNumber⟩) (Xa_NoSuchNumber : PySem.W.codeIn K cd_NoSuchNumber "NoSuchNumber.__init__" = true) (Xb_NoSuchNumber : PySem.W.keepIn K (.ref fI_NoSuchNumber) = true)
    (Y0_NoSuchNumber : PySem.W.findIn K (.ref A_NoSuchNumber) "number" = some none)
    (Xc_NoSuchNumber : PySem.W.findIn K (.ref A_NoSuchNumber) "__getattribute__" = some (some (.builtin "BaseException.__getattribute__"))) (Xd_NoSuchNumber : PySem.W.findIn K (.ref A_NoSuchNumber) "__getattr__" = some none) (Xe_NoSuchNumber : PySem.W.hasDictIn K A_NoSuchNumber = true)
    (Xf_NoSuchNumber : PySem.W.findIn K (.ref A_NoSuchNumber) "__class__" = some (some (.builtin "object.__class__"))) (Xg_NoSuchNumber : PySem.W.specialIn K (.builtin "object.__class__") "__get__" = some (some (.builtin "getset_descriptor.__get__"))) (Xh_NoSuchNumber : PySem.W.takesIn K (.builtin "object.__class__") = some true) (Xi_NoSuchNumber : PySem.W.mroIn K A_NoSuchNumber (.type "object") = some true)
    (E_NoSuchNumber_NoSuchNumber : PySem.W.exmOne K (.ref A_NoSuchNumber) (.ref A_NoSuchNumber) = some true)
    (E_NoSuchNumber_TooLarge : PySem.W.exmOne K (.ref A_NoSuchNumber) (.ref A_TooLarge) = some false)
    (Q_NoSuchNumber_LaidError : PySem.W.kitOne K (.ref A_NoSuchNumber) (.ref A_LaidError) = some true)
    (Q_NoSuchNumber_NoSuchNumber : PySem.W.kitOne K (.ref A_NoSuchNumber) (.ref A_NoSuchNumber) = some true)
    (Q_NoSuchNumber_TooLarge : PySem.W.kitOne K (.ref A_NoSuchNumber) (.ref A_TooLarge) = some false)
    (X1_TooLarge : K.lookup A_TooLarge = some (excClassObj nm_TooLarge qq_TooLarge A_TooLarge N_TooLarge bs_TooLarge bm_TooLarge true sn_TooLarge sb_TooLarge ab_TooLarge co_TooLarge dd_TooLarge m0_TooLarge m1_TooLarge m2_TooLarge m3_TooLarge m5_TooLarge "ValueError.__new__")) (X2_TooLarge : PySem.HandSPX.refsVE bm_TooLarge = true)
    (X3_TooLarge : PySem.W.findIn K (.ref A_TooLarge) "__setattr__" = some (some (.builtin "object.__setattr__"))) (X4_TooLarge : PySem.W.subIn K (.ref A_TooLarge) (.type "BaseException") = some true) (X5_TooLarge : PySem.W.typeIn K (.ref A_TooLarge) = some (.type "type")) (X6_TooLarge : PySem.W.keepIn K (.ref A_TooLarge) = true)
    (X7_TooLarge : PySem.W.findIn K (.ref A_TooLarge) "__init__" = some (some (.ref fI_TooLarge))) (X8_TooLarge : PySem.W.typeIn K (.ref fI_TooLarge) = some (.type "function")) (X9_TooLarge : K.lookup fI_TooLarge = some ⟨oc_TooLarge, od_TooLarge, .func (PySem.W.fnOf "__init__" "TooLarge.__init__" (defArgs s_TooLarge) (defBody s_TooLarge) (defScope s_TooLarge) .none kV_TooLarge dc_TooLarge pm_TooLarge an_TooLarge cd_TooLarge ct_TooLarge), sl_TooLarge⟩) (Xa_TooLarge : PySem.W.codeIn K cd_TooLarge "TooLarge.__init__" = true) (Xb_TooLarge : PySem.W.keepIn K (.ref fI_TooLarge) = true)
    (Y0_TooLarge : PySem.W.findIn K (.ref A_TooLarge) "many" = some none)
    (Xc_TooLarge : PySem.W.findIn K (.ref A_TooLarge) "__getattribute__" = some (some (.builtin "BaseException.__getattribute__"))) (Xd_TooLarge : PySem.W.findIn K (.ref A_TooLarge) "__getattr__" = some none) (Xe_TooLarge : PySem.W.hasDictIn K A_TooLarge = true)
    (Xf_TooLarge : PySem.W.findIn K (.ref A_TooLarge) "__class__" = some (some (.builtin "object.__class__"))) (Xg_TooLarge : PySem.W.specialIn K (.builtin "object.__class__") "__get__" = some (some (.builtin "getset_descriptor.__get__"))) (Xh_TooLarge : PySem.W.takesIn K (.builtin "object.__class__") = some true) (Xi_TooLarge : PySem.W.mroIn K A_TooLarge (.type "object") = some true)
    (E_TooLarge_NoSuchNumber : PySem.W.exmOne K (.ref A_TooLarge) (.ref A_NoSuchNumber) = some false)
    (E_TooLarge_TooLarge : PySem.W.exmOne K (.ref A_TooLarge) (.ref A_TooLarge) = some true)
    (Q_TooLarge_LaidError : PySem.W.kitOne K (.ref A_TooLarge) (.ref A_LaidError) = some true)
    (Q_TooLarge_NoSuchNumber : PySem.W.kitOne K (.ref A_TooLarge) (.ref A_NoSuchNumber) = some false)
    (Q_TooLarge_TooLarge : PySem.W.kitOne K (.ref A_TooLarge) (.ref A_TooLarge) = some true)
    (x_Galley : PySem.W.nsIn K mainGlobals "Galley" = some (some (.ref A_Galley))) (P1_Galley : PySem.W.plainGet K A_Galley Str.empty = true) (P2_Galley : PySem.W.hasDictIn K A_Galley = true) (P3_Galley : PySem.W.plainOver K A_Galley = true) (P4_Galley : PySem.W.findIn K (.ref A_Galley) "__setattr__" = some (some (.builtin "object.__setattr__")))
    (M1_Galley : PySem.W.makesIn K A_Galley = true) (M2_Galley : PySem.W.findIn K (.ref A_Galley) "__init__" = some (some (.ref f3))) (M3_Galley : PySem.W.isFn K (.ref f3) = true) (M4_Galley : PySem.W.keepIn K (.ref A_Galley) = true)
    (N_Galley_all_figures : PySem.W.findIn K (.ref A_Galley) "all_figures" = some none)
    (N_Galley_all_pieces : PySem.W.findIn K (.ref A_Galley) "all_pieces" = some none)
    (N_Galley_blocks : PySem.W.findIn K (.ref A_Galley) "blocks" = some none)
    (N_Galley_spans : PySem.W.findIn K (.ref A_Galley) "spans" = some none)
    (m1_Galley___add__ : PySem.W.findIn K (.ref A_Galley) "__add__" = some (some (.ref f6))) (m2_Galley___add__ : PySem.W.isFn K (.ref f6) = true)
    (m1_Galley___eq__ : PySem.W.findIn K (.ref A_Galley) "__eq__" = some (some (.ref f5))) (m2_Galley___eq__ : PySem.W.isFn K (.ref f5) = true)
    (m1_Galley___iadd__ : PySem.W.findIn K (.ref A_Galley) "__iadd__" = some (some (.ref f7))) (m2_Galley___iadd__ : PySem.W.isFn K (.ref f7) = true)
    (m1_Galley___iter__ : PySem.W.findIn K (.ref A_Galley) "__iter__" = some (some (.ref f30))) (m2_Galley___iter__ : PySem.W.isFn K (.ref f30) = true)
    (m1_Galley___len__ : PySem.W.findIn K (.ref A_Galley) "__len__" = some (some (.ref f4))) (m2_Galley___len__ : PySem.W.isFn K (.ref f4) = true)
    (m1_Galley_block_at : PySem.W.findIn K (.ref A_Galley) "block_at" = some (some (.ref f10))) (m2_Galley_block_at : PySem.W.isFn K (.ref f10) = true)
    (p1_Galley_figures : PySem.W.findIn K (.ref A_Galley) "figures" = some (some (.ref pp_Galley_figures))) (p2_Galley_figures : PySem.W.recIn K pp_Galley_figures "property" = some (.ref f9 :: pq_Galley_figures)) (p3_Galley_figures : PySem.W.specialIn K (.ref pp_Galley_figures) "__get__" = some (some (.builtin "property.__get__"))) (p4_Galley_figures : PySem.W.takesIn K (.ref pp_Galley_figures) = some true)
    (p1_Galley_pieces : PySem.W.findIn K (.ref A_Galley) "pieces" = some (some (.ref pp_Galley_pieces))) (p2_Galley_pieces : PySem.W.recIn K pp_Galley_pieces "property" = some (.ref f8 :: pq_Galley_pieces)) (p3_Galley_pieces : PySem.W.specialIn K (.ref pp_Galley_pieces) "__get__" = some (some (.builtin "property.__get__"))) (p4_Galley_pieces : PySem.W.takesIn K (.ref pp_Galley_pieces) = some true)
    (nf_Galley : PySem.W.notFirst K A_Galley (.ref A_Galley) = true)
    (sf_Galley : PySem.W.selfFirst K A_Galley = true)
    (I1_Galley : PySem.W.findIn K (.ref A_Galley) "__class__" = some (some (.builtin "object.__class__"))) (I2_Galley : PySem.W.specialIn K (.builtin "object.__class__") "__get__" = some (some (.builtin "getset_descriptor.__get__"))) (I3_Galley : PySem.W.takesIn K (.builtin "object.__class__") = some true) (I4_Galley : PySem.W.mroIn K A_Galley (.type "object") = some true) (Q_Galley_self : PySem.W.kitOne K (.ref A_Galley) (.ref A_Galley) = some true)
    (Q_Galley_NoneType : PySem.W.kitOne K (.type "NoneType") (.ref A_Galley) = some false)
    (Q_Galley_bool : PySem.W.kitOne K (.type "bool") (.ref A_Galley) = some false)
    (Q_Galley_int : PySem.W.kitOne K (.type "int") (.ref A_Galley) = some false)
    (Q_Galley_str : PySem.W.kitOne K (.type "str") (.ref A_Galley) = some false)
    (Q_Galley_list : PySem.W.kitOne K (.type "list") (.ref A_Galley) = some false)
    (Q_Galley_tuple : PySem.W.kitOne K (.type "tuple") (.ref A_Galley) = some false)
    (Q_Galley_dict : PySem.W.kitOne K (.type "dict") (.ref A_Galley) = some false)
    (W_Galley_NoneType : PySem.W.notFirst K A_Galley (.type "NoneType") = true)
    (W_Galley_bool : PySem.W.notFirst K A_Galley (.type "bool") = true)
    (W_Galley_int : PySem.W.notFirst K A_Galley (.type "int") = true)
    (W_Galley_str : PySem.W.notFirst K A_Galley (.type "str") = true)
    (W_Galley_list : PySem.W.notFirst K A_Galley (.type "list") = true)
    (W_Galley_tuple : PySem.W.notFirst K A_Galley (.type "tuple") = true)
    (W_Galley_dict : PySem.W.notFirst K A_Galley (.type "dict") = true) :
    ∃ fd : FuncData, (∀ (s : Shared) (v : Value), BindsTo s fd ⟨[v], []⟩ [("_law_script", v)]) ∧ ∀ base : Heap, K.In base → base.Ns mainGlobals mg → FnOk l.prog w K mg base (L2N.CX l.prog w) 12 fa fd ["_law_script"] (spLaw K) := by
  have e := hfa.symm.trans (PySem.W.mg_of X G a29)
  cases e
  obtain ⟨T, e1, e2⟩ := txt_mk X G a0 l0 c0 k0 a1 l1 c1 k1 a2 l2 c2 k2 l3 c3 k3 lT3 lE3 l4 c4 k4 l5 c5 k5 l6 c6 k6 l7 c7 k7 l8 c8 k8 l9 c9 k9 l10 c10 k10 a11 l11 c11 k11 a12 l12 c12 k12 a13 l13 c13 k13 a14 l14 c14 k14 a15 l15 c15 k15 a16 l16 c16 k16 a17 l17 c17 k17 a18 l18 c18 k18 a19 l19 c19 k19 a20 l20 c20 k20 a21 l21 c21 k21 a22 l22 c22 k22 a23 l23 c23 k23 a24 l24 c24 k24 a25 l25 c25 k25 a26 l26 c26 k26 a27 l27 c27 k27 a28 l28 c28 k28 a29 l29 c29 k29 l30 c30 k30 z_bool z_enumerate z_int z_isinstance z_iter z_len z_list z_max z_min z_range z_str z_tuple y_MOST_FIGURES y_MOST_PIECES x_LaidError x_NoSuchNumber x_TooLarge X1_NoSuchNumber X2_NoSuchNumber X3_NoSuchNumber X4_NoSuchNumber X5_NoSuchNumber X6_NoSuchNumber X7_NoSuchNumber X8_NoSuchNumber X9_NoSuchNumber Xa_NoSuchNumber Xb_NoSuchNumber Y0_NoSuchNumber Xc_NoSuchNumber Xd_NoSuchNumber Xe_NoSuchNumber Xf_NoSuchNumber Xg_NoSuchNumber Xh_NoSuchNumber Xi_NoSuchNumber E_NoSuchNumber_NoSuchNumber E_NoSuchNumber_TooLarge Q_NoSuchNumber_LaidError Q_NoSuchNumber_NoSuchNumber Q_NoSuchNumber_TooLarge X1_TooLarge X2_TooLarge X3_TooLarge X4_TooLarge X5_TooLarge X6_TooLarge X7_TooLarge X8_TooLarge X9_TooLarge Xa_TooLarge Xb_TooLarge Y0_TooLarge Xc_TooLarge Xd_TooLarge Xe_TooLarge Xf_TooLarge Xg_TooLarge Xh_TooLarge Xi_TooLarge E_TooLarge_NoSuchNumber E_TooLarge_TooLarge Q_TooLarge_LaidError Q_TooLarge_NoSuchNumber Q_TooLarge_TooLarge x_Galley P1_Galley P2_Galley P3_Galley P4_Galley M1_Galley M2_Galley M3_Galley M4_Galley N_Galley_all_figures N_Galley_all_pieces N_Galley_blocks N_Galley_spans m1_Galley___add__ m2_Galley___add__ m1_Galley___eq__ m2_Galley___eq__ m1_Galley___iadd__ m2_Galley___iadd__ m1_Galley___iter__ m2_Galley___iter__ m1_Galley___len__ m2_Galley___len__ m1_Galley_block_at m2_Galley_block_at p1_Galley_figures p2_Galley_figures p3_Galley_figures p4_Galley_figures p1_Galley_pieces p2_Galley_pieces p3_Galley_pieces p4_Galley_pieces nf_Galley sf_Galley I1_Galley I2_Galley I3_Galley I4_Galley Q_Galley_self Q_Galley_NoneType Q_Galley_bool Q_Galley_int Q_Galley_str Q_Galley_list Q_Galley_tuple Q_Galley_dict W_Galley_NoneType W_Galley_bool W_Galley_int W_Galley_str W_Galley_list W_Galley_tuple W_Galley_dict
  refine ⟨PySem.W.fnOf "law" "law" (defArgs s_law) (defBody s_law) (defScope s_law) .none kV29 dc29 pm29 an29 cd29 ct29, fun s v => .of_eq rfl, fun base _ _ => ?_⟩
  have z := ok_end (P := l.prog) (w := w) (base := base) T
  rw [e1, e2] at z
  exact z
end Lk
end S_P_end
section S_P_top
set_option Elab.async false
set_option linter.all false
open PySem PySem.W PyProof.Rows
set_option maxRecDepth 100000 in
set_option maxHeartbeats 0 in
theorem PySem.Challenge.cw_laidforall_k34_galleys_holds : PySem.Challenge.rw_laidforall_k34_galleys.Holds := by
  w_on; o_law; k_head; (case hw => w_witness2)
  k_fill
  refine L2.walk_of (l := PySem.Challenge.rw_laidforall_k34_galleys) (n := 63) (k := 12) (x := "_law_script") (CX := fun w => L2N.CX PySem.Challenge.rw_laidforall_k34_galleys.prog w) (sp := fun w => Lk.spLaw _) rfl (by decide) rfl ⟨rfl, by decide, by decide⟩ (fun w h Y => PySem.W.kIn_of Y) ?F (fun _ _ a ns hl _ hS => ⟨a, ns, rfl, hS, hl, fun _ => rfl⟩) (fun _ _ _ _ _ h => Dx.cx_never h)
  case F =>
    intro w mg fa h KX G hmg
    refine' Lk.all_mk KX G hmg ?a0 ?l0 ?c0 ?k0 ?a1 ?l1 ?c1 ?k1 ?a2 ?l2 ?c2 ?k2 ?l3 ?c3 ?k3 ?lT3 ?lE3 ?l4 ?c4 ?k4 ?l5 ?c5 ?k5 ?l6 ?c6 ?k6 ?l7 ?c7 ?k7 ?l8 ?c8 ?k8 ?l9 ?c9 ?k9 ?l10 ?c10 ?k10 ?a11 ?l11 ?c11 ?k11 ?a12 ?l12 ?c12 ?k12 ?a13 ?l13 ?c13 ?k13 ?a14 ?l14 ?c14 ?k14 ?a15 ?l15 ?c15 ?k15 ?a16 ?l16 ?c16 ?k16 ?a17 ?l17 ?c17 ?k17 ?a18 ?l18 ?c18 ?k18 ?a19 ?l19 ?c19 ?k19 ?a20 ?l20 ?c20 ?k20 ?a21 ?l21 ?c21 ?k21 ?a22 ?l22 ?c22 ?k22 ?a23 ?l23 ?c23 ?k23 ?a24 ?l24 ?c24 ?k24 ?a25 ?l25 ?c25 ?k25 ?a26 ?l26 ?c26 ?k26 ?a27 ?l27 ?c27 ?k27 ?a28 ?l28 ?c28 ?k28 ?a29 ?l29 ?c29 ?k29 ?l30 ?c30 ?k30 ?z_bool ?z_enumerate ?z_int ?z_isinstance ?z_iter ?z_len ?z_list ?z_max ?z_min ?z_range ?z_str ?z_tuple ?y_MOST_FIGURES ?y_MOST_PIECES ?x_LaidError ?x_NoSuchNumber ?x_TooLarge ?X1_NoSuchNumber ?X2_NoSuchNumber ?X3_NoSuchNumber ?X4_NoSuchNumber ?X5_NoSuchNumber ?X6_NoSuchNumber ?X7_NoSuchNumber ?X8_NoSuchNumber ?X9_NoSuchNumber ?Xa_NoSuchNumber ?Xb_NoSuchNumber ?Y0_NoSuchNumber ?Xc_NoSuchNumber ?Xd_NoSuchNumber ?Xe_NoSuchNumber ?Xf_NoSuchNumber ?Xg_NoSuchNumber ?Xh_NoSuchNumber ?Xi_NoSuchNumber ?E_NoSuchNumber_NoSuchNumber ?E_NoSuchNumber_TooLarge ?Q_NoSuchNumber_LaidError ?Q_NoSuchNumber_NoSuchNumber ?Q_NoSuchNumber_TooLarge ?X1_TooLarge ?X2_TooLarge ?X3_TooLarge ?X4_TooLarge ?X5_TooLarge ?X6_TooLarge ?X7_TooLarge ?X8_TooLarge ?X9_TooLarge ?Xa_TooLarge ?Xb_TooLarge ?Y0_TooLarge ?Xc_TooLarge ?Xd_TooLarge ?Xe_TooLarge ?Xf_TooLarge ?Xg_TooLarge ?Xh_TooLarge ?Xi_TooLarge ?E_TooLarge_NoSuchNumber ?E_TooLarge_TooLarge ?Q_TooLarge_LaidError ?Q_TooLarge_NoSuchNumber ?Q_TooLarge_TooLarge ?x_Galley ?P1_Galley ?P2_Galley ?P3_Galley ?P4_Galley ?M1_Galley ?M2_Galley ?M3_Galley ?M4_Galley ?N_Galley_all_figures ?N_Galley_all_pieces ?N_Galley_blocks ?N_Galley_spans ?m1_Galley___add__ ?m2_Galley___add__ ?m1_Galley___eq__ ?m2_Galley___eq__ ?m1_Galley___iadd__ ?m2_Galley___iadd__ ?m1_Galley___iter__ ?m2_Galley___iter__ ?m1_Galley___len__ ?m2_Galley___len__ ?m1_Galley_block_at ?m2_Galley_block_at ?p1_Galley_figures ?p2_Galley_figures ?p3_Galley_figures ?p4_Galley_figures ?p1_Galley_pieces ?p2_Galley_pieces ?p3_Galley_pieces ?p4_Galley_pieces ?nf_Galley ?sf_Galley ?I1_Galley ?I2_Galley ?I3_Galley ?I4_Galley ?Q_Galley_self ?Q_Galley_NoneType ?Q_Galley_bool ?Q_Galley_int ?Q_Galley_str ?Q_Galley_list ?Q_Galley_tuple ?Q_Galley_dict ?W_Galley_NoneType ?W_Galley_bool ?W_Galley_int ?W_Galley_str ?W_Galley_list ?W_Galley_tuple ?W_Galley_dict
    (case y_MOST_FIGURES => k_is)
    (case y_MOST_PIECES => k_is)
    (case x_LaidError => k_is)
    (case x_NoSuchNumber => k_is)
    (case x_TooLarge => k_is)
    (case x_Galley => k_is)
    (case M2_Galley => k_is)
    (case m1_Galley___add__ => k_is)
    (case m1_Galley___eq__ => k_is)
    (case m1_Galley___iadd__ => k_is)
    (case m1_Galley___iter__ => k_is)
    (case m1_Galley___len__ => k_is)
    (case m1_Galley_block_at => k_is)
    (case p1_Galley_figures => k_is)
    (case p1_Galley_pieces => k_is)
    (case p2_Galley_figures => k_is)
    (case p2_Galley_pieces => k_is)
    (case a0 => k_is)
    (case l0 => k_is)
    (case c0 => k_is)
    (case k0 => k_is)
    (case a1 => k_is)
    (case l1 => k_is)
    (case c1 => k_is)
    (case k1 => k_is)
    (case a2 => k_is)
    (case l2 => k_is)
    (case c2 => k_is)
    (case k2 => k_is)
    (case l3 => k_is)
    (case c3 => k_is)
    (case k3 => k_is)
    (case lT3 => k_is)
    (case lE3 => k_is)
    (case l4 => k_is)
    (case c4 => k_is)
    (case k4 => k_is)
    (case l5 => k_is)
    (case c5 => k_is)
    (case k5 => k_is)
    (case l6 => k_is)
    (case c6 => k_is)
    (case k6 => k_is)
    (case l7 => k_is)
    (case c7 => k_is)
    (case k7 => k_is)
    (case l8 => k_is)
    (case c8 => k_is)
    (case k8 => k_is)
    (case l9 => k_is)
    (case c9 => k_is)
    (case k9 => k_is)
    (case l10 => k_is)
    (case c10 => k_is)
    (case k10 => k_is)
    (case a11 => k_is)
    (case l11 => k_is)
    (case c11 => k_is)
    (case k11 => k_is)
    (case a12 => k_is)
    (case l12 => k_is)
    (case c12 => k_is)
    (case k12 => k_is)
    (case a13 => k_is)
    (case l13 => k_is)
    (case c13 => k_is)
    (case k13 => k_is)
    (case a14 => k_is)
    (case l14 => k_is)
    (case c14 => k_is)
    (case k14 => k_is)
    (case a15 => k_is)
    (case l15 => k_is)
    (case c15 => k_is)
    (case k15 => k_is)
    (case a16 => k_is)
    (case l16 => k_is)
    (case c16 => k_is)
    (case k16 => k_is)
    (case a17 => k_is)
    (case l17 => k_is)
    (case c17 => k_is)
    (case k17 => k_is)
    (case a18 => k_is)
    (case l18 => k_is)
    (case c18 => k_is)
    (case k18 => k_is)
    (case a19 => k_is)
    (case l19 => k_is)
    (case c19 => k_is)
    (case k19 => k_is)
    (case a20 => k_is)
    (case l20 => k_is)
    (case c20 => k_is)
    (case k20 => k_is)
    (case a21 => k_is)
    (case l21 => k_is)
    (case c21 => k_is)
    (case k21 => k_is)
    (case a22 => k_is)
    (case l22 => k_is)
    (case c22 => k_is)
    (case k22 => k_is)
    (case a23 => k_is)
    (case l23 => k_is)
    (case c23 => k_is)
    (case k23 => k_is)
    (case a24 => k_is)
    (case l24 => k_is)
    (case c24 => k_is)
    (case k24 => k_is)
    (case a25 => k_is)
    (case l25 => k_is)
    (case c25 => k_is)
    (case k25 => k_is)
    (case a26 => k_is)
    (case l26 => k_is)
    (case c26 => k_is)
    (case k26 => k_is)
    (case a27 => k_is)
    (case l27 => k_is)
    (case c27 => k_is)
    (case k27 => k_is)
    (case a28 => k_is)
    (case l28 => k_is)
    (case c28 => k_is)
    (case k28 => k_is)
    (case a29 => k_is)
    (case l29 => k_is)
    (case c29 => k_is)
    (case k29 => k_is)
    (case l30 => k_is)
    (case c30 => k_is)
    (case k30 => k_is)
    (case z_bool => k_is)
    (case z_enumerate => k_is)
    (case z_int => k_is)
    (case z_isinstance => k_is)
    (case z_iter => k_is)
    (case z_len => k_is)
    (case z_list => k_is)
    (case z_max => k_is)
    (case z_min => k_is)
    (case z_range => k_is)
    (case z_str => k_is)
    (case z_tuple => k_is)
    (case X1_NoSuchNumber => k_is)
    (case X2_NoSuchNumber => decide +kernel)
    (case X3_NoSuchNumber => k_is)
    (case X4_NoSuchNumber => k_is)
    (case X5_NoSuchNumber => k_is)
    (case X6_NoSuchNumber => k_is)
    (case X7_NoSuchNumber => k_is)
    (case X8_NoSuchNumber => k_is)
    (case X9_NoSuchNumber => k_is)
    (case Xa_NoSuchNumber => k_is)
    (case Xb_NoSuchNumber => k_is)
    (case Y0_NoSuchNumber => k_is)
    (case Xc_NoSuchNumber => k_is)
    (case Xd_NoSuchNumber => k_is)
    (case Xe_NoSuchNumber => k_is)
    (case Xf_NoSuchNumber => k_is)
    (case Xg_NoSuchNumber => k_is)
    (case Xh_NoSuchNumber => k_is)
    (case Xi_NoSuchNumber => k_is)
    (case E_NoSuchNumber_NoSuchNumber => first | k_is | rfl | decide +kernel)
    (case E_NoSuchNumber_TooLarge => first | k_is | rfl | decide +kernel)
    (case Q_NoSuchNumber_LaidError => first | k_is | rfl | decide +kernel)
    (case Q_NoSuchNumber_NoSuchNumber => first | k_is | rfl | decide +kernel)
    (case Q_NoSuchNumber_TooLarge => first | k_is | rfl | decide +kernel)
    (case X1_TooLarge => k_is)
    (case X2_TooLarge => decide +kernel)
    (case X3_TooLarge => k_is)
    (case X4_TooLarge => k_is)
    (case X5_TooLarge => k_is)
    (case X6_TooLarge => k_is)
    (case X7_TooLarge => k_is)
    (case X8_TooLarge => k_is)
    (case X9_TooLarge => k_is)
    (case Xa_TooLarge => k_is)
    (case Xb_TooLarge => k_is)
    (case Y0_TooLarge => k_is)
    (case Xc_TooLarge => k_is)
    (case Xd_TooLarge => k_is)
    (case Xe_TooLarge => k_is)
    (case Xf_TooLarge => k_is)
    (case Xg_TooLarge => k_is)
    (case Xh_TooLarge => k_is)
    (case Xi_TooLarge => k_is)
    (case E_TooLarge_NoSuchNumber => first | k_is | rfl | decide +kernel)
    (case E_TooLarge_TooLarge => first | k_is | rfl | decide +kernel)
    (case Q_TooLarge_LaidError => first | k_is | rfl | decide +kernel)
    (case Q_TooLarge_NoSuchNumber => first | k_is | rfl | decide +kernel)
    (case Q_TooLarge_TooLarge => first | k_is | rfl | decide +kernel)
    (case P1_Galley => k_is)
    (case P2_Galley => k_is)
    (case P3_Galley => k_is)
    (case P4_Galley => k_is)
    (case M1_Galley => k_is)
    (case M3_Galley => k_is)
    (case M4_Galley => k_is)
    (case N_Galley_all_figures => k_is)
    (case N_Galley_all_pieces => k_is)
    (case N_Galley_blocks => k_is)
    (case N_Galley_spans => k_is)
    (case m2_Galley___add__ => k_is)
    (case m2_Galley___eq__ => k_is)
    (case m2_Galley___iadd__ => k_is)
    (case m2_Galley___iter__ => k_is)
    (case m2_Galley___len__ => k_is)
    (case m2_Galley_block_at => k_is)
    (case p3_Galley_figures => k_is)
    (case p4_Galley_figures => k_is)
    (case p3_Galley_pieces => k_is)
    (case p4_Galley_pieces => k_is)
    (case nf_Galley => k_is)
    (case sf_Galley => k_is)
    (case I1_Galley => k_is)
    (case I2_Galley => k_is)
    (case I3_Galley => k_is)
    (case I4_Galley => k_is)
    (case Q_Galley_self => first | k_is | rfl | decide +kernel)
    (case Q_Galley_NoneType => first | k_is | rfl | decide +kernel)
    (case Q_Galley_bool => first | k_is | rfl | decide +kernel)
    (case Q_Galley_int => first | k_is | rfl | decide +kernel)
    (case Q_Galley_str => first | k_is | rfl | decide +kernel)
    (case Q_Galley_list => first | k_is | rfl | decide +kernel)
    (case Q_Galley_tuple => first | k_is | rfl | decide +kernel)
    (case Q_Galley_dict => first | k_is | rfl | decide +kernel)
    (case W_Galley_NoneType => k_is)
    (case W_Galley_bool => k_is)
    (case W_Galley_int => k_is)
    (case W_Galley_str => k_is)
    (case W_Galley_list => k_is)
    (case W_Galley_tuple => k_is)
    (case W_Galley_dict => k_is)
end S_P_top
