import PyProof.Rows.All
import Wide.All
import OpenK.AllK
import Wide.FinOn
import HandS.ForMost
import HandS.ForExc
import HandS.Evl
import HandS.Walk
import HandS.IsInst
import KE.KDictKeyed
import HandS.Lambda
import HandS.TupAny
import HandS.Deep
import HandS.Flow
import HandS.Wide
import HandS.Text
import HandS.CallSlots
import HandS.ExcCtx
import HandS.HotCalls
import HandS.ExcInit
import HandS.ExcField
import HandS.ExcIs
import KE.KExcIs
import HandS.ExcInitHot
import HandS.FStr
import HandS.Iter
import HandS.Zip0
import PyProof.EnumMake
import PyProof.Draws
import HandS.Style
import HandS.ClsMeth
import KE.GoesMore
import KE.GoesZip
import PyProof.StrOps2
import PyProof.Rows.MatchSeqLen
import KE.KUnpack
import HandS.NoneIn
import HandS.More
import HandS.Star
import HandS.SlotsOwn
import HandS.OwnIter
import HandS.IterVal
import KE.KCallOwn
import KE.KOwnIter
import HandS.TupLen
import HandS.Property
import HandS.Conv
import HandS.SortRule
import KE.KDictDisplayH
import HandS.Defaults
import HandS.TryOnly
import HandS.SortInts
import HandS.SortOrd
import HandS.DictComp
import KE.DataMinMax
import KE.KDictCopyH
import HandS.ListItems
import PyProof.ListStr
import PyProof.InstNe
import HandS.MakeKwOnly
import KE.KTupSum
import HandS.TryMany
import KE.KEqDict
import PyProof.EqKinds
import HandS.RaiseMore
import HandS.StrMore
import HandS.TupLe
import HandS.OwnEq
import PyProof.ListRange
import KE.KDictZip
import HandS.GenList
import KE.SortKeyHeap
import HandS.SortKw
import HandS.EndTab
import KE.KNestM
import KE.LtData
import HandS.SetFor
import HandS.Strs
import PySem.Challenge.RW_laidforall_k07_whole_every_tree
set_option Elab.async false
set_option linter.all false
set_option maxRecDepth 100000
section S_DxA
set_option Elab.async false
set_option linter.all false
set_option maxRecDepth 100000
namespace Dx
open PySem L2
/-- data: what a value stands for, whatever its address -/
inductive D where
  | non
  | bl (b : Bool)
  | int (i : Int)
  | str (s : Str)
  | lst (xs : List D)
  | fz (xs : List D)
  | tup (xs : List D)
  | kt (xs : List D)
  | dk (ks : List Key) (vs : List D)
  | dt (ks : List (List Key)) (vs : List D)
  | dn (ks vs : List D)
  | obj (c : Str) (ns : List Str) (vs : List D)
  | own (k : Nat)
  | st (k : Nat) (rows : List (List D))
/-- where the classes of the text stand -/
abbrev CM := Str → Option Addr
/-- H' knows o at a; of a table of code objects, that it is one -/
@[reducible] def Nx (H' : Hp) (a : Addr) (o : HO) : Prop := match o with
  | .tbl _ => ∃ ps, H' a = some (.tbl ps)
  | o => H' a = some o
theorem Nx.mk {H' : Hp} {a : Addr} {o : HO} (h : H' a = some o) : Nx H' a o := by
  cases o with
  | tbl ps => exact ⟨ps, h⟩
  | _ => exact h
/-- H' knows all that H knows; tables of code objects may have changed -/
def Ex (H H' : Hp) : Prop := ∀ a o, H a = some o → Nx H' a o
theorem Ex.refl {H : Hp} : Ex H H := fun _ _ h => .mk h
theorem Nx.up {H1 H2 : Hp} {a : Addr} {o : HO} (h : Nx H1 a o) (b : Ex H1 H2) : Nx H2 a o := by
  cases o with
  | tbl ps =>
    obtain ⟨ps1, e⟩ := h
    exact b a (.tbl ps1) e
  | _ => exact b a _ h
theorem Ex.trans {H H1 H2 : Hp} (a : Ex H H1) (b : Ex H1 H2) : Ex H H2 := fun x o h => (a x o h).up b
theorem Nx.ne {H' : Hp} {a : Addr} {o : HO} (h : Nx H' a o) (n : H' a = none) : False := by
  cases o with
  | tbl ps =>
    obtain ⟨ps1, e⟩ := h
    rw [n] at e; cases e
  | _ => have e : H' a = _ := h; rw [n] at e; cases e
theorem Nx.of {H' : Hp} {a : Addr} {o : HO} (h : Nx H' a o) (n : ∀ ps, o ≠ .tbl ps) : H' a = some o := by
  cases o with
  | tbl ps => exact absurd rfl (n ps)
  | _ => exact h
theorem Nx.at {H1 H2 : Hp} {a : Addr} {o : HO} (h : Nx H1 a o) (k : H2 a = H1 a) : Nx H2 a o := by
  cases o with
  | tbl ps =>
    obtain ⟨ps1, e⟩ := h
    exact ⟨ps1, k.trans e⟩
  | _ => exact k.trans h
theorem Ex.nn {H H' : Hp} (e : Ex H H') {p : Addr} (h : H' p = none) : H p = none := by
  cases h1 : H p with
  | none => rfl
  | some o => exact ((e p o h1).ne h).elim
theorem Ex.same {H H' : Hp} (e : Ex H H') {p : Addr} {o o' : HO} (h : H p = some o) (h' : H' p = some o') (n : ∀ ps, o' ≠ .tbl ps) : o = o' := by
  have z := e p o h
  cases o with
  | tbl ps =>
    obtain ⟨ps1, z⟩ := z
    rw [h'] at z
    exact absurd (Option.some.inj z) (n ps1)
  | _ =>
    have z : H' p = _ := z
    rw [h'] at z
    exact (Option.some.inj z).symm
theorem Ex.new {H : Hp} {p : Addr} {o : HO} (h : H p = none) : Ex H (upd H p o) := fun a u e => .mk (by
  rw [upd_ne (ne_of_none e h)]; exact e)
theorem Nx.put {H' : Hp} {a p : Addr} {o u : HO} (h : Nx H' a u) (n : a ≠ p) : Nx (upd H' p o) a u := by
  cases u with
  | tbl ps =>
    obtain ⟨ps1, e⟩ := h
    exact ⟨ps1, by rw [upd_ne n]; exact e⟩
  | _ => exact (upd_ne n).trans h
theorem Ex.put {H H' : Hp} {p : Addr} {o : HO} (e : Ex H H') (h : H p = none) : Ex H (upd H' p o) := fun a u ha => (e a u ha).put (ne_of_none ha h)
theorem Ex.both {S H : Hp} {p : Addr} {o : HO} (e : Ex S H) : Ex (upd S p o) (upd H p o) := fun a u ha => by
  by_cases h : a = p
  · subst h; rw [upd_same] at ha; exact .mk (by rw [upd_same]; exact ha)
  · rw [upd_ne h] at ha; exact (e a u ha).put h
theorem Ex.rd {H H' : Hp} {a : Addr} {u : HO} (e : Ex H H') (h : Rd H a u) (n : ∀ ps, u ≠ .tbl ps := by intro ps z; cases z) : Rd H' a u := by
  rcases h with h | ⟨o, h⟩
  · exact .inl ((e a _ h).of n)
  · exact .inr ⟨o, e a _ h⟩
theorem Ex.l {K : PySem.W.Frag} {H H' : Hp} {a : Addr} {xs : List V} (e : Ex H H') (h : SqL K H a xs) : SqL K H' a xs := by
  rcases h with h | h
  · exact .inl (e.rd h)
  · exact .inr h
theorem Ex.t {K : PySem.W.Frag} {H H' : Hp} {a : Addr} {xs : List V} (e : Ex H H') (h : SqT K H a xs) : SqT K H' a xs := by
  rcases h with h | h
  · exact .inl (e.rd h)
  · exact .inr h
mutual
def nkD : D → Option NestedKey
  | .non => some .none
  | .bl b => some (.num (if b = true then 1 else 0))
  | .int i => some (.num i)
  | .tup ds => (nkL ds).map .tup
  | .kt ds => (nkL ds).map .tup
  | _ => none
def nkL : List D → Option (List NestedKey)
  | [] => some []
  | d :: ds => match nkD d, nkL ds with
    | some k, some ks => some (k :: ks)
    | _, _ => none
end
/-- a key: a tuple, not too deep -/
def nkT (d : D) : Option NestedKey := match nkD d with
  | some (.tup ks) => if (NestedKey.tup ks).depth ≤ 8 then some (.tup ks) else none
  | _ => none
/-- an entry, its value told -/
def EntOk (e : NestedKey × Addr × V) (x : NestedKey × Addr × Value) : Prop := e.1 = x.1 ∧ e.2.1 = x.2.1 ∧ RelV e.2.2 x.2.2
/-- what stands at p, its very object; no text is in the keys, so their hashes are the same in every world -/
def dnP (p : Addr) (ob : Obj) (es : List (NestedKey × Addr × V)) (h : Heap) : Prop :=
  (p == sysModules) = false ∧ ∃ (xs : List (NestedKey × Addr × Value)) (o : Obj) (eps : Array DictEntry) (ep : Nat), Paired EntOk es xs ∧ h.get? p = some o ∧ o.ExactDict ∧ o.data = .dict eps ep ∧ (∀ w : World, eps.toList = xs.map fun x => ⟨x.1.hash w, .ref x.2.1, x.2.2⟩) ∧ o = ob
/-- the keys by data -/
structure NkOk (es : List (NestedKey × Addr × V)) (ks : List D) : Prop where
  eq : ks.map nkT = es.map fun e => some e.1
  nd : (es.map (·.1)).Nodup
  sz : es.length ≤ sizeLine
mutual
/-- the value v, at the heap S, stands for the data -/
inductive Rp (K : PySem.W.Frag) (cm : CM) (S : Hp) : V → D → Prop
  | non : Rp K cm S .non .non
  | bl (b : Bool) : Rp K cm S (.bl b) (.bl b)
  | int (i : Int) : Rp K cm S (.int i) (.int i)
  | str (x : Str) : Rp K cm S (.str x) (.str x)
  | lst {a : Addr} {xs : List V} {ds : List D} : S a = some (.lst xs) → RpA K cm S xs ds → Rp K cm S (.ref a) (.lst ds)
  | fz {a : Addr} {xs : List V} {ds : List D} : SqL K S a xs → RpA K cm S xs ds → Rp K cm S (.ref a) (.fz ds)
  | tup {a : Addr} {xs : List V} {ds : List D} : S a = some (.tup xs) → RpA K cm S xs ds → Rp K cm S (.ref a) (.tup ds)
  | kt {a : Addr} {xs : List V} {ds : List D} : SqT K S a xs → RpA K cm S xs ds → Rp K cm S (.ref a) (.kt ds)
  | dk {a : Addr} {w : Obj} {kvs : List (Key × V)} {ks : List Key} {ds : List D} : S a = some (.frz w (.dK kvs)) → ks = kvs.map (·.1) → RpA K cm S (kvs.map (·.2)) ds → Rp K cm S (.ref a) (.dk ks ds)
  | dt {a : Addr} {w : Obj} {kvs : List (List Key × V)} {ks : List (List Key)} {ds : List D} : S a = some (.frz w (.dT kvs)) → ks = kvs.map (·.1) → RpA K cm S (kvs.map (·.2)) ds → Rp K cm S (.ref a) (.dt ks ds)
  | dn {a p : Addr} {w ob : Obj} {es : List (NestedKey × Addr × V)} {ks ds : List D} : S a = some (.frz w (.ext (dnP p ob es))) → NkOk es ks → RpA K cm S (es.map fun e => .ref e.2.1) ks → RpA K cm S (es.map (·.2.2)) ds → Rp K cm S (.ref a) (.dn ks ds)
  | obj {a C dx : Addr} {c : Str} {fs : List (Str × V)} {ns : List Str} {ds : List D} : cm c = some C → S a = some (.ins C dx fs) → ns = fs.map (·.1) → RpA K cm S (fs.map (·.2)) ds → Rp K cm S (.ref a) (.obj c ns ds)
inductive RpA (K : PySem.W.Frag) (cm : CM) (S : Hp) : List V → List D → Prop
  | nil : RpA K cm S [] []
  | cons {v : V} {vs : List V} {d : D} {ds : List D} : Rp K cm S v d → RpA K cm S vs ds → RpA K cm S (v :: vs) (d :: ds)
end
section
variable {K : PySem.W.Frag} {cm : CM} {S S' : Hp}
mutual
theorem Rp.mono (e : Ex S S') : ∀ {v : V} {d : D}, Rp K cm S v d → Rp K cm S' v d
  | _, .non, h => by cases h; exact .non
  | _, .bl _, h => by cases h; exact .bl _
  | _, .int _, h => by cases h; exact .int _
  | _, .str _, h => by cases h; exact .str _
  | _, .lst ds, h => by cases h with | lst q r => exact .lst (e _ _ q) (RpA.mono e r)
  | _, .fz ds, h => by cases h with | fz q r => exact .fz (e.l q) (RpA.mono e r)
  | _, .tup ds, h => by cases h with | tup q r => exact .tup (e _ _ q) (RpA.mono e r)
  | _, .kt ds, h => by cases h with | kt q r => exact .kt (e.t q) (RpA.mono e r)
  | _, .dk _ ds, h => by cases h with | dk q k r => exact .dk (e _ _ q) k (RpA.mono e r)
  | _, .dt _ ds, h => by cases h with | dt q k r => exact .dt (e _ _ q) k (RpA.mono e r)
  | _, .dn ks ds, h => by cases h with | dn q k r1 r2 => exact .dn (e _ _ q) k (RpA.mono e r1) (RpA.mono e r2)
  | _, .obj _ _ ds, h => by cases h with | obj c q k r => exact .obj c (e _ _ q) k (RpA.mono e r)
theorem RpA.mono (e : Ex S S') : ∀ {vs : List V} {ds : List D}, RpA K cm S vs ds → RpA K cm S' vs ds
  | _, [], h => by cases h; exact .nil
  | _, d :: ds, h => by cases h with | cons a r => exact .cons (Rp.mono e a) (RpA.mono e r)
end
theorem RpA.length : ∀ {vs : List V} {ds : List D}, RpA K cm S vs ds → vs.length = ds.length
  | _, _, .nil => rfl
  | _, _, .cons _ r => by simp [RpA.length r]
theorem RpA.get : ∀ {vs : List V} {ds : List D} {i : Nat} {d : D}, RpA K cm S vs ds → ds[i]? = some d → ∃ v, vs[i]? = some v ∧ Rp K cm S v d
  | _, _, _, _, .nil, e => by simp at e
  | _, _, 0, _, .cons h _, e => by simp at e; subst e; exact ⟨_, by simp, h⟩
  | _, _, i + 1, d, .cons _ r, e => by
    obtain ⟨v, h1, h2⟩ := RpA.get (i := i) (d := d) r (by simpa using e)
    exact ⟨v, by simpa using h1, h2⟩
theorem RpA.getV : ∀ {vs : List V} {ds : List D} {i : Nat} {v : V}, RpA K cm S vs ds → vs[i]? = some v → ∃ d, ds[i]? = some d ∧ Rp K cm S v d
  | _, _, _, _, .nil, e => by simp at e
  | _, _, 0, _, .cons h _, e => by simp at e; subst e; exact ⟨_, by simp, h⟩
  | _, _, i + 1, v, .cons _ r, e => by
    obtain ⟨d, h1, h2⟩ := RpA.getV (i := i) (v := v) r (by simpa using e)
    exact ⟨d, by simpa using h1, h2⟩
theorem RpA.app : ∀ {vs us : List V} {ds es : List D}, RpA K cm S vs ds → RpA K cm S us es → RpA K cm S (vs ++ us) (ds ++ es)
  | _, _, _, _, .nil, s => s
  | _, _, _, _, .cons h r, s => .cons h (RpA.app r s)
theorem RpA.one {v : V} {d : D} (h : Rp K cm S v d) : RpA K cm S [v] [d] := .cons h .nil
theorem RpA.take : ∀ {vs : List V} {ds : List D} (n : Nat), RpA K cm S vs ds → RpA K cm S (vs.take n) (ds.take n)
  | _, _, 0, _ => .nil
  | _, _, _ + 1, .nil => .nil
  | _, _, n + 1, .cons h r => .cons h (RpA.take n r)
theorem RpA.drop : ∀ {vs : List V} {ds : List D} (n : Nat), RpA K cm S vs ds → RpA K cm S (vs.drop n) (ds.drop n)
  | _, _, 0, r => r
  | _, _, _ + 1, .nil => .nil
  | _, _, n + 1, .cons _ r => RpA.drop n r
theorem RpA.set {v : V} {d : D} (h : Rp K cm S v d) : ∀ {vs : List V} {ds : List D} (i : Nat), RpA K cm S vs ds → RpA K cm S (vs.set i v) (ds.set i d)
  | _, _, _, .nil => .nil
  | _, _, 0, .cons _ r => .cons h r
  | _, _, i + 1, .cons q r => .cons q (RpA.set h i r)
theorem RpA.reverse : ∀ {vs : List V} {ds : List D}, RpA K cm S vs ds → RpA K cm S vs.reverse ds.reverse
  | _, _, .nil => .nil
  | _, _, .cons h r => by rw [List.reverse_cons, List.reverse_cons]; exact (RpA.reverse r).app (.one h)
end
/-- the content of a mutable object stands for the data, its parts at S -/
inductive RpO (K : PySem.W.Frag) (cm : CM) (S : Hp) : HO → D → Prop
  | lst {xs : List V} {ds : List D} : RpA K cm S xs ds → RpO K cm S (.lst xs) (.lst ds)
  | dk {kvs : List (Key × V)} {ks : List Key} {ds : List D} : ks = kvs.map (·.1) → RpA K cm S (kvs.map (·.2)) ds → RpO K cm S (.dK kvs) (.dk ks ds)
  | dt {kvs : List (List Key × V)} {ks : List (List Key)} {ds : List D} : ks = kvs.map (·.1) → RpA K cm S (kvs.map (·.2)) ds → RpO K cm S (.dT kvs) (.dt ks ds)
  | dn {p : Addr} {ob : Obj} {es : List (NestedKey × Addr × V)} {ks ds : List D} : NkOk es ks → RpA K cm S (es.map fun e => .ref e.2.1) ks → RpA K cm S (es.map (·.2.2)) ds → RpO K cm S (.ext (dnP p ob es)) (.dn ks ds)
  | obj {C dx : Addr} {c : Str} {fs : List (Str × V)} {ns : List Str} {ds : List D} : cm c = some C → ns = fs.map (·.1) → RpA K cm S (fs.map (·.2)) ds → RpO K cm S (.ins C dx fs) (.obj c ns ds)
theorem RpO.mono {K : PySem.W.Frag} {cm : CM} {S S' : Hp} (e : Ex S S') {o : HO} {d : D} (h : RpO K cm S o d) : RpO K cm S' o d := by
  cases h with
  | lst r => exact .lst (r.mono e)
  | dk k r => exact .dk k (r.mono e)
  | dt k r => exact .dt k (r.mono e)
  | dn k r1 r2 => exact .dn k (r1.mono e) (r2.mono e)
  | obj c k r => exact .obj c k (r.mono e)
def isDct : D → Bool
  | .dk _ _ => true
  | .dt _ _ => true
  | .dn _ _ => true
  | _ => false
theorem RpO.pub {K : PySem.W.Frag} {cm : CM} {S : Hp} {o : HO} {d : D} {p : Addr} (h : RpO K cm S o d) (nd : isDct d = false) (hp : S p = o) : Rp K cm S (.ref p) d := by
  cases h with
  | lst r => exact .lst hp r
  | dk k r => cases nd
  | dt k r => cases nd
  | dn k r1 r2 => cases nd
  | obj c k r => exact .obj c hp k r
theorem RpO.pubD {K : PySem.W.Frag} {cm : CM} {S : Hp} {o : HO} {d : D} {p : Addr} {w : Obj} (h : RpO K cm S o d) (nd : isDct d = true) (hp : S p = some (.frz w o)) : Rp K cm S (.ref p) d ∧ Mut (some o) := by
  cases h with
  | lst r => cases nd
  | dk k r => exact ⟨.dk hp k r, trivial⟩
  | dt k r => exact ⟨.dt hp k r, trivial⟩
  | dn k r1 r2 => exact ⟨.dn hp k r1 r2, trivial⟩
  | obj c k r => cases nd
theorem RpO.mut {K : PySem.W.Frag} {cm : CM} {S : Hp} {o : HO} {d : D} (h : RpO K cm S o d) : Mut (some o) := by
  cases h <;> trivial
/-- what is no table, no code object -/
theorem RpO.nt {K : PySem.W.Frag} {cm : CM} {S : Hp} {o : HO} {d : D} (h : RpO K cm S o d) : ∀ ps, o ≠ .tbl ps := fun ps z => by
  subst z; cases h
theorem code_ne_dn {cA p : Addr} {q : Str} {ob : Obj} {es : List (NestedKey × Addr × V)} : LamX.CodeO cA q ≠ .ext (dnP p ob es) := fun z => by
  have z : (fun h : Heap => ∃ (oc : Obj) (vs : Array Value) (t : Tok), h.get? cA = some oc ∧ oc.data = .fields vs ∧ vs[1]? = some (.str q t)) = dnP p ob es := by
    unfold LamX.CodeO at z
    exact HO.ext.inj z
  let oc : Obj := { cls := .none, data := .fields #[.none, .str q 0] }
  let hp : Heap := ⟨Array.replicate (cA + 1) oc, {}⟩
  have at_ : ∀ b x, hp.get? b = some x → x = oc := fun b x e => by
    by_cases hb : b < cA + 1
    · have g : hp.get? b = some oc := by
        show (match (Array.replicate (cA + 1) oc)[b]? with | some ⟨_, _, .freed, _⟩ => none | o => o) = some oc
        rw [Array.getElem?_replicate, if_pos hb]
      rw [g] at e
      exact (Option.some.inj e).symm
    · have g : hp.get? b = none := by
        show (match (Array.replicate (cA + 1) oc)[b]? with | some ⟨_, _, .freed, _⟩ => none | o => o) = none
        rw [Array.getElem?_replicate, if_neg hb]
      rw [g] at e; cases e
  have g : hp.get? cA = some oc := by
    show (match (Array.replicate (cA + 1) oc)[cA]? with | some ⟨_, _, .freed, _⟩ => none | o => o) = some oc
    rw [Array.getElem?_replicate, if_pos (Nat.lt_succ_self _)]
  have k := (congrFun z hp).mp ⟨oc, #[.none, .str q 0], 0, g, rfl, rfl⟩
  obtain ⟨_, xs, o, eps, ep, _, e, _, hd, _⟩ := k
  rw [at_ p o e] at hd
  cases hd
theorem RpO.nc {K : PySem.W.Frag} {cm : CM} {S : Hp} {cA : Addr} {q : Str} {d : D} (h : RpO K cm S (LamX.CodeO cA q) d) : False := by
  generalize e : LamX.CodeO cA q = o at h
  cases h with
  | dn k r1 r2 => exact code_ne_dn e
  | _ => unfold LamX.CodeO at e; cases e
/-- the tables of code objects that H tells stand in H', too -/
def lamN : Str := "price_table.<locals>.<lambda>"
def Tk (H H' : Hp) : Prop := ∀ P, LamX.TabS H P lamN → LamX.TabS H' P lamN
theorem Tk.refl {H : Hp} : Tk H H := fun _ h => h
theorem Tk.trans {H H1 H2 : Hp} (a : Tk H H1) (b : Tk H1 H2) : Tk H H2 := fun P h => b P (a P h)
theorem Tk.new {H : Hp} {p : Addr} {o : HO} (n : H p = none) : Tk H (upd H p o) := fun _ h => h.ext fun b u e => by
  rw [upd_ne (ne_of_none e n)]; exact e
/-- no table, no code object -/
def Pl (o : HO) : Prop := (∀ ps, o ≠ .tbl ps) ∧ ∀ cA q, o ≠ LamX.CodeO cA q
theorem Pl.lst {xs : List V} : Pl (.lst xs) := ⟨fun _ z => (by cases z), fun _ _ z => (by unfold LamX.CodeO at z; cases z)⟩
theorem Pl.tup {xs : List V} : Pl (.tup xs) := ⟨fun _ z => (by cases z), fun _ _ z => (by unfold LamX.CodeO at z; cases z)⟩
theorem Pl.dK {kvs : List (Key × V)} : Pl (.dK kvs) := ⟨fun _ z => (by cases z), fun _ _ z => (by unfold LamX.CodeO at z; cases z)⟩
theorem Pl.dT {kvs : List (List Key × V)} : Pl (.dT kvs) := ⟨fun _ z => (by cases z), fun _ _ z => (by unfold LamX.CodeO at z; cases z)⟩
theorem Pl.ins {C dx : Addr} {fs : List (Str × V)} : Pl (.ins C dx fs) := ⟨fun _ z => (by cases z), fun _ _ z => (by unfold LamX.CodeO at z; cases z)⟩
theorem Pl.ext {p : Addr} {ob : Obj} {es : List (NestedKey × Addr × V)} : Pl (.ext (dnP p ob es)) := ⟨fun _ z => (by cases z), fun _ _ z => code_ne_dn z.symm⟩
theorem RpO.pl {K : PySem.W.Frag} {cm : CM} {S : Hp} {o : HO} {d : D} (h : RpO K cm S o d) : Pl o := ⟨h.nt, fun cA q z => by subst z; exact h.nc⟩
theorem Tk.at {H : Hp} {p : Addr} {o o' : HO} (h : H p = some o) (r : Pl o) : Tk H (upd H p o') := fun P ⟨ps, h1, h2, h3⟩ => by
  refine ⟨ps, ?_, h2, fun pos cv hc => ?_⟩
  · rw [upd_ne fun z => ?_]
    · exact h1
    · rw [z, h] at h1
      exact r.1 ps (Option.some.inj h1)
  · obtain ⟨cA, e1, e2⟩ := h3 pos cv hc
    refine ⟨cA, e1, ?_⟩
    rw [upd_ne fun z => ?_]
    · exact e2
    · subst z
      rw [h] at e2
      exact r.2 _ _ (Option.some.inj e2)
theorem Tk.sub {H H' : Hp} (k : ∀ b u, H b = some u → H' b = some u) : Tk H H' := fun _ h => h.ext k
theorem Tk.butP {H H' : Hp} {O : Addr → Prop} (h : ∀ a, O a → ∃ o, H a = some o ∧ Pl o) (k : ∀ b u, ¬ O b → H b = some u → H' b = some u) : Tk H H' := fun P ⟨ps, h1, h2, h3⟩ => by
  refine ⟨ps, k _ _ (fun z => ?_) h1, h2, fun pos cv hc => ?_⟩
  · obtain ⟨o, e, r⟩ := h P z
    rw [h1] at e
    exact r.1 ps (Option.some.inj e).symm
  · obtain ⟨cA, e1, e2⟩ := h3 pos cv hc
    refine ⟨cA, e1, k _ _ (fun z => ?_) e2⟩
    obtain ⟨o, e, r⟩ := h cA z
    rw [e2] at e
    exact r.2 _ _ (Option.some.inj e).symm
theorem Tk.but {H H' : Hp} {A : List Addr} (h : ∀ a ∈ A, ∃ o, H a = some o ∧ Pl o) (k : ∀ b u, b ∉ A → H b = some u → H' b = some u) : Tk H H' := fun P ⟨ps, h1, h2, h3⟩ => by
  refine ⟨ps, k _ _ (fun z => ?_) h1, h2, fun pos cv hc => ?_⟩
  · obtain ⟨o, e, r⟩ := h P z
    rw [h1] at e
    exact r.1 ps (Option.some.inj e).symm
  · obtain ⟨cA, e1, e2⟩ := h3 pos cv hc
    refine ⟨cA, e1, k _ _ (fun z => ?_) e2⟩
    obtain ⟨o, e, r⟩ := h cA z
    rw [e2] at e
    exact r.2 _ _ (Option.some.inj e).symm
theorem Tk.mut {K : PySem.W.Frag} {cm : CM} {S H : Hp} {p : Addr} {o o' : HO} {d : D} (h : H p = some o) (r : RpO K cm S o d) : Tk H (upd H p o') := fun P ⟨ps, h1, h2, h3⟩ => by
  refine ⟨ps, ?_, h2, fun pos cv hc => ?_⟩
  · rw [upd_ne fun z => ?_]
    · exact h1
    · rw [z, h] at h1
      exact r.nt ps (Option.some.inj h1)
  · obtain ⟨cA, e1, e2⟩ := h3 pos cv hc
    refine ⟨cA, e1, ?_⟩
    rw [upd_ne fun z => ?_]
    · exact e2
    · subst z
      rw [h] at e2
      cases e2
      exact r.nc
/-- not there, or a tuple -/
def Old (o : Option HO) : Prop := o = none ∨ ∃ xs, o = some (.tup xs)
theorem Old.back {H H' : Hp} (e : Ex H H') {a : Addr} (h : Old (H' a)) : Old (H a) := by
  cases q : H a with
  | none => exact .inl rfl
  | some u =>
    rcases h with h | ⟨xs, h⟩
    · exact ((e a u q).ne h).elim
    · have z := e a u q
      cases u with
      | tup ys => exact .inr ⟨ys, rfl⟩
      | tbl ps =>
        obtain ⟨ps1, z⟩ := z
        rw [z] at h; cases h
      | _ => have z : H' a = _ := z; rw [z] at h; cases h
theorem Old.not {H : Hp} {a : Addr} {o : HO} (h : Old (H a)) (q : H a = some o) : ∃ xs, o = .tup xs := by
  rw [q] at h
  rcases h with h | ⟨xs, h⟩
  · cases h
  · cases h; exact ⟨xs, rfl⟩
/-- S is the part of H that stays; from (S, H) to (S', H') nothing known has changed -/
structure Fwd (S H S' H' : Hp) : Prop where
  s : Ex S S'
  h : Ex H H'
  sub : Ex S' H'
  new : ∀ a o, S' a = some o → S a = none → Old (H a)
  tb : Tk H H'
theorem Fwd.refl {S H : Hp} (e : Ex S H) : Fwd S H S H := ⟨Ex.refl, Ex.refl, e, fun a o h n => (by rw [n] at h; cases h), Tk.refl⟩
theorem Fwd.trans {S H S1 H1 S2 H2 : Hp} (a : Fwd S H S1 H1) (b : Fwd S1 H1 S2 H2) : Fwd S H S2 H2 :=
  ⟨a.s.trans b.s, a.h.trans b.h, b.sub, fun p o h n => (by
    cases e : S1 p with
    | some u => exact a.new p u e n
    | none => exact (b.new p o h e).back a.h), a.tb.trans b.tb⟩
theorem Fwd.both {S H : Hp} {p : Addr} {o : HO} (e : Ex S H) (n : H p = none) : Fwd S H (upd S p o) (upd H p o) :=
  ⟨Ex.new (e.nn n), Ex.new n, e.both, fun a u h m => (by
    by_cases ha : a = p
    · subst ha; exact .inl n
    · rw [upd_ne ha, m] at h; cases h), Tk.new n⟩
theorem Fwd.heap {S H : Hp} {p : Addr} {o : HO} (e : Ex S H) (n : H p = none) : Fwd S H S (upd H p o) :=
  ⟨Ex.refl, Ex.new n, e.put (e.nn n), fun a u h m => (by rw [m] at h; cases h), Tk.new n⟩
/-- a new object known to H' alone becomes one that stays -/
theorem Fwd.pub {S H S' H' : Hp} {p : Addr} {o : HO} (f : Fwd S H S' H') (n : H p = none) (ns : S' p = none) (h : H' p = some o) : Fwd S H (upd S' p o) H' :=
  ⟨f.s.trans (Ex.new ns), f.h, fun a u ha => (by
    by_cases hh : a = p
    · subst hh; rw [upd_same] at ha; exact .mk (by rw [h]; exact ha)
    · rw [upd_ne hh] at ha; exact f.sub a u ha), fun a u ha m => (by
    by_cases hh : a = p
    · subst hh; exact .inl n
    · rw [upd_ne hh] at ha; exact f.new a u ha m), f.tb⟩
inductive Res (α : Type) where
  | ok (a : α)
  | err (c : Str) (ns : List Str) (vs : List D)
  | bad
@[inline] def Res.bind {α β : Type} : Res α → (α → Res β) → Res β
  | .ok a, k => k a
  | .err c ns vs, _ => .err c ns vs
  | .bad, _ => .bad
instance : Monad Res where
  pure := Res.ok
  bind := Res.bind
abbrev Rho := List (Option D)
/-- the end of a statement -/
inductive SR where
  | nx (r : Rho)
  | rt (d : D)
  | bk (r : Rho)
  | ct (r : Rho)
  | er (r : Rho) (c : Str) (ns : List Str) (vs : List D)
  | bad
inductive Ow where
  | v | o | b | w
  | s (pre : List Addr)
  | x (a C dd : Addr)
  | i (a : Addr)
  | j (a : Addr) (fs : List (Str × V))
def isO : Ow → Prop
  | .o => True
  | .i _ => True
  | _ => False
structure Cf where
  K : PySem.W.Frag
  cm : CM
  W : WX
  ge : Option (List Ow)
  rm : Bool
  tb : Addr → Str → Prop
/-- a value, or a mutable object read at H whose parts stay -/
def RpB (K : PySem.W.Frag) (cm : CM) (S H : Hp) (v : V) (d : D) : Prop :=
  Rp K cm S v d ∨ ∃ p ho, v = .ref p ∧ H p = some ho ∧ RpO K cm S ho d
section
variable {K : PySem.W.Frag} {cm : CM} {S S' H H' : Hp} {v : V} {d : D}
theorem RpB.mono (h : RpB K cm S H v d) (e : Ex S S') (e' : Ex H H') : RpB K cm S' H' v d := by
  rcases h with h | ⟨p, ho, h1, h2, h3⟩
  · exact .inl (h.mono e)
  · exact .inr ⟨p, ho, h1, (e' _ _ h2).of h3.nt, h3.mono e⟩
theorem RpB.list {ds : List D} (h : RpB K cm S H v (.lst ds)) (e : Ex S H) : ∃ p xs, v = .ref p ∧ H p = some (.lst xs) ∧ RpA K cm S xs ds := by
  rcases h with h | ⟨p, ho, h1, h2, h3⟩
  · cases h with | lst q r => exact ⟨_, _, rfl, e _ _ q, r⟩
  · cases h3 with | lst r => exact ⟨p, _, h1, h2, r⟩
theorem RpB.int {i : Int} (h : RpB K cm S H v (.int i)) : v = .int i := by
  rcases h with h | ⟨p, ho, h1, h2, h3⟩
  · cases h; rfl
  · cases h3
theorem RpB.bl {b : Bool} (h : RpB K cm S H v (.bl b)) : v = .bl b := by
  rcases h with h | ⟨p, ho, h1, h2, h3⟩
  · cases h; rfl
  · cases h3
theorem RpB.non (h : RpB K cm S H v .non) : v = .non := by
  rcases h with h | ⟨p, ho, h1, h2, h3⟩
  · cases h; rfl
  · cases h3
theorem RpB.str {z : Str} (h : RpB K cm S H v (.str z)) : v = .str z := by
  rcases h with h | ⟨p, ho, h1, h2, h3⟩
  · cases h; rfl
  · cases h3
theorem RpB.tup {ds : List D} (h : RpB K cm S H v (.tup ds)) (e : Ex S H) : ∃ p xs, v = .ref p ∧ SqT K H p xs ∧ RpA K cm S xs ds ∧ S p = some (.tup xs) := by
  rcases h with h | ⟨p, ho, h1, h2, h3⟩
  · cases h with | tup q r => exact ⟨_, _, rfl, .inl (.inl (e _ _ q)), r, q⟩
  · cases h3
theorem RpB.kt {ds : List D} (h : RpB K cm S H v (.kt ds)) (e : Ex S H) : ∃ p xs, v = .ref p ∧ SqT K H p xs ∧ RpA K cm S xs ds ∧ SqT K S p xs := by
  rcases h with h | ⟨p, ho, h1, h2, h3⟩
  · cases h with | kt q r => exact ⟨_, _, rfl, e.t q, r, q⟩
  · cases h3
theorem RpB.fz {ds : List D} (h : RpB K cm S H v (.fz ds)) (e : Ex S H) : ∃ p xs, v = .ref p ∧ SqL K H p xs ∧ RpA K cm S xs ds := by
  rcases h with h | ⟨p, ho, h1, h2, h3⟩
  · cases h with | fz q r => exact ⟨_, _, rfl, e.l q, r⟩
  · cases h3
theorem RpB.dk {ks : List Key} {ds : List D} (h : RpB K cm S H v (.dk ks ds)) (e : Ex S H) : ∃ p kvs, v = .ref p ∧ Rd H p (.dK kvs) ∧ ks = kvs.map (·.1) ∧ RpA K cm S (kvs.map (·.2)) ds := by
  rcases h with h | ⟨p, ho, h1, h2, h3⟩
  · cases h with | dk q k r => exact ⟨_, _, rfl, .inr ⟨_, e _ _ q⟩, k, r⟩
  · cases h3 with | dk k r => exact ⟨p, _, h1, .inl h2, k, r⟩
theorem RpB.dt {ks : List (List Key)} {ds : List D} (h : RpB K cm S H v (.dt ks ds)) (e : Ex S H) : ∃ p kvs, v = .ref p ∧ Rd H p (.dT kvs) ∧ ks = kvs.map (·.1) ∧ RpA K cm S (kvs.map (·.2)) ds := by
  rcases h with h | ⟨p, ho, h1, h2, h3⟩
  · cases h with | dt q k r => exact ⟨_, _, rfl, .inr ⟨_, e _ _ q⟩, k, r⟩
  · cases h3 with | dt k r => exact ⟨p, _, h1, .inl h2, k, r⟩
theorem RpB.dn {ks ds : List D} (h : RpB K cm S H v (.dn ks ds)) (e : Ex S H) : ∃ q p ob es, v = .ref q ∧ Rd H q (.ext (dnP p ob es)) ∧ NkOk es ks ∧ RpA K cm S (es.map fun e => .ref e.2.1) ks ∧ RpA K cm S (es.map (·.2.2)) ds := by
  rcases h with h | ⟨p, ho, h1, h2, h3⟩
  · cases h with | dn q k r1 r2 => exact ⟨_, _, _, _, rfl, .inr ⟨_, e _ _ q⟩, k, r1, r2⟩
  · cases h3 with | dn k r1 r2 => exact ⟨p, _, _, _, h1, .inl h2, k, r1, r2⟩
theorem RpB.obj {n : Str} {ns : List Str} {ds : List D} (h : RpB K cm S H v (.obj n ns ds)) (e : Ex S H) : ∃ p C dx fs, v = .ref p ∧ cm n = some C ∧ H p = some (.ins C dx fs) ∧ ns = fs.map (·.1) ∧ RpA K cm S (fs.map (·.2)) ds := by
  rcases h with h | ⟨p, ho, h1, h2, h3⟩
  · cases h with | obj c q k r => exact ⟨_, _, _, _, rfl, c, e _ _ q, k, r⟩
  · cases h3 with | obj c k r => exact ⟨p, _, _, _, h1, c, h2, k, r⟩
end
/-- a value, or one of the own lists at the places A -/
def RmV (K : PySem.W.Frag) (cm : CM) (A : List Addr) (S : Hp) (v : V) (d : D) : Prop := Rp K cm S v d ∨ ∃ k a, d = .own k ∧ A[k]? = some a ∧ v = .ref a
def RmA (K : PySem.W.Frag) (cm : CM) (A : List Addr) (S : Hp) (vs : List V) (ds : List D) : Prop := vs.length = ds.length ∧ ∀ (i : Nat) v d, vs[i]? = some v → ds[i]? = some d → RmV K cm A S v d
def SlotOk (c : Cf) (H0 S H : Hp) : Ow → V → D → Prop
  | .v, v, d => Rp c.K c.cm S v d
  | .o, v, d => ∃ p ho, v = .ref p ∧ H p = some ho ∧ S p = none ∧ H0 p = none ∧ RpO c.K c.cm S ho d
  | .i a, v, d => v = .ref a ∧ ∃ p ho, v = .ref p ∧ H p = some ho ∧ S p = none ∧ H0 p = none ∧ RpO c.K c.cm S ho d
  | .b, v, d => RpB c.K c.cm S H0 v d
  | .j a fs, v, d => v = .ref a ∧ ∃ C dx n, c.cm n = some C ∧ H0 a = some (.ins C dx fs) ∧ d = .obj n [] []
  | .s _, v, d => ∃ k M, d = .st k M
  | .w, v, d => ∃ k, d = .own k
  | .x a C dd, v, d => v = .ref a ∧ ∃ n ns ds fs, d = .obj n ns ds ∧ c.cm n = some C ∧ S dd = some (.xd fs) ∧ ns = fs.map (·.1) ∧ RpA c.K c.cm S (fs.map (·.2)) ds
abbrev kd (G : List Ow) (i : Nat) : Ow := G.getD i .v
/-- the own lists that stand in each other, at the places A -/
structure StoOk (K : PySem.W.Frag) (cm : CM) (tb : Addr → Str → Prop) (H0 : Hp) (G : List Ow) (S H : Hp) (σ : St) (r : Rho) (A : List Addr) : Prop where
  nod : A.Nodup
  out : ∀ a ∈ A, S a = none ∧ H0 a = none ∧ ∃ xs, H a = some (.lst xs)
  own : ∀ i d p, r[i]? = some (some d) → isO (kd G i) → σ[i]? = some (some (.ref p)) → p ∉ A
  st : ∀ i k M P, kd G i = .s P → r[i]? = some (some (.st k M)) → (P <+: A ∧ A.length = M.length) ∧ (∃ a, A[k]? = some a ∧ σ[i]? = some (some (.ref a))) ∧ ∀ (n : Nat) row, M[n]? = some row → ∃ a xs, A[n]? = some a ∧ H a = some (.lst xs) ∧ RmA K cm A S xs row
  al : ∀ i k, kd G i = .w → r[i]? = some (some (.own k)) → ∃ a, A[k]? = some a ∧ σ[i]? = some (some (.ref a))
  tab : ∀ P q, tb P q → LamX.TabS H0 P q
theorem RmA.mono {K : PySem.W.Frag} {cm : CM} {A : List Addr} {S S' : Hp} {vs : List V} {ds : List D} (h : RmA K cm A S vs ds) (e : Ex S S') : RmA K cm A S' vs ds :=
  ⟨h.1, fun i v d hv hd => (h.2 i v d hv hd).imp (fun z => z.mono e) id⟩
theorem StoOk.sub {K : PySem.W.Frag} {cm : CM} {tb : Addr → Str → Prop} {H0 S H S' H' : Hp} {G G' : List Ow} {σ σ' : St} {r r' : Rho} {A : List Addr} (h : StoOk K cm tb H0 G S H σ r A) (hS : ∀ a ∈ A, S' a = none) (hH : ∀ a ∈ A, H' a = H a) (eS : Ex S S')
    (ho : ∀ i d p, r'[i]? = some (some d) → isO (kd G' i) → σ'[i]? = some (some (.ref p)) → p ∉ A)
    (hs : ∀ i d, (∃ P, kd G' i = .s P) ∨ kd G' i = .w → r'[i]? = some (some d) → kd G i = kd G' i ∧ r[i]? = some (some d) ∧ σ'[i]? = σ[i]?) : StoOk K cm tb H0 G' S' H' σ' r' A where
  nod := h.nod
  tab := h.tab
  out := fun a ha => by
    obtain ⟨_, h2, h3⟩ := h.out a ha
    exact ⟨hS a ha, h2, by rw [hH a ha]; exact h3⟩
  own := ho
  st := fun i k M P hi hr => by
    obtain ⟨a1, a2, a3⟩ := hs i _ (.inl ⟨P, hi⟩) hr
    obtain ⟨b1, b2, b3⟩ := h.st i k M P (a1.trans hi) a2
    refine ⟨b1, by rw [a3]; exact b2, fun n row hn => ?_⟩
    obtain ⟨a, xs, c1, c2, c3⟩ := b3 n row hn
    exact ⟨a, xs, c1, by rw [hH a (List.mem_of_getElem? c1)]; exact c2, c3.mono eS⟩
  al := fun i k hi hr => by
    obtain ⟨a1, a2, a3⟩ := hs i _ (.inr hi) hr
    rw [a3]
    exact h.al i k (a1.trans hi) a2
theorem StoOk.go {K : PySem.W.Frag} {cm : CM} {tb : Addr → Str → Prop} {H0 S H S' H' : Hp} {G : List Ow} {σ : St} {r : Rho} {A : List Addr} (h : StoOk K cm tb H0 G S H σ r A) (f : Fwd S H S' H') : StoOk K cm tb H0 G S' H' σ r A :=
  h.sub (fun a ha => by
    obtain ⟨h1, _, xs, h3⟩ := h.out a ha
    cases e : S' a with
    | none => rfl
    | some u => obtain ⟨ys, z⟩ := (f.new a u e h1).not h3; cases z) (fun a ha => by
    obtain ⟨_, _, xs, h3⟩ := h.out a ha
    rw [h3]; exact f.h a _ h3) f.s h.own fun i d hi hr => ⟨rfl, hr, rfl⟩
/-- no such lists -/
theorem StoOk.nil {K : PySem.W.Frag} {cm : CM} {tb : Addr → Str → Prop} {H0 S H : Hp} {G : List Ow} {σ : St} {r : Rho} (h : ∀ i d, r[i]? = some (some d) → (∀ P, kd G i ≠ .s P) ∧ kd G i ≠ .w) (ht : ∀ P q, tb P q → LamX.TabS H0 P q) : StoOk K cm tb H0 G S H σ r [] where
  nod := List.nodup_nil
  tab := ht
  out := fun a ha => by cases ha
  own := fun i d p _ _ _ hp => by cases hp
  st := fun i k M P hi hr => absurd hi ((h i _ hr).1 P)
  al := fun i k hi hr => absurd hi (h i _ hr).2
structure EnvOk (c : Cf) (S0 H0 : Hp) (G : List Ow) (S H : Hp) (σ : St) (r : Rho) : Prop where
  fwd : Fwd S0 H0 S H
  len : σ.length = r.length
  slot : ∀ i d, r[i]? = some (some d) → ∃ v, σ[i]? = some (some v) ∧ SlotOk c H0 S H (kd G i) v d
  sep : ∀ i j d e p, r[i]? = some (some d) → r[j]? = some (some e) → isO (kd G i) → isO (kd G j) → σ[i]? = some (some (.ref p)) → σ[j]? = some (some (.ref p)) → i = j
  sto : ∃ A, StoOk c.K c.cm c.tb H0 G S H σ r A
section
variable {c : Cf} {S0 H0 S H S' H' : Hp} {G : List Ow} {σ : St} {r : Rho}
theorem SlotOk.o_of {k : Ow} {v : V} {d : D} (h : SlotOk c H0 S H k v d) (q : isO k) : ∃ p ho, v = .ref p ∧ H p = some ho ∧ S p = none ∧ H0 p = none ∧ RpO c.K c.cm S ho d := by
  cases k with
  | o => exact h
  | i a => exact h.2
  | _ => cases q
theorem SlotOk.mono {k : Ow} {v : V} {d : D} (h : SlotOk c H0 S H k v d) (f : Fwd S H S' H') : SlotOk c H0 S' H' k v d := by
  cases k with
  | v => exact Rp.mono f.s h
  | o =>
    obtain ⟨p, ho, h1, h2, h3, h4, h5⟩ := h
    refine ⟨p, ho, h1, (f.h p _ h2).of h5.nt, ?_, h4, h5.mono f.s⟩
    cases e : S' p with
    | none => rfl
    | some u => obtain ⟨ys, z⟩ := (f.new p u e h3).not h2; subst z; cases h5
  | i a =>
    obtain ⟨h0, p, ho, h1, h2, h3, h4, h5⟩ := h
    refine ⟨h0, p, ho, h1, (f.h p _ h2).of h5.nt, ?_, h4, h5.mono f.s⟩
    cases e : S' p with
    | none => rfl
    | some u => obtain ⟨ys, z⟩ := (f.new p u e h3).not h2; subst z; cases h5
  | b => exact RpB.mono h f.s Ex.refl
  | j a fs => exact h
  | s P => exact h
  | w => exact h
  | x a C dd =>
    obtain ⟨h1, n, ns, ds, fs, h2, h3, h4, h5, h6⟩ := h
    exact ⟨h1, n, ns, ds, fs, h2, h3, f.s _ _ h4, h5, h6.mono f.s⟩
theorem EnvOk.go (e : EnvOk c S0 H0 G S H σ r) (f : Fwd S H S' H') : EnvOk c S0 H0 G S' H' σ r :=
  ⟨e.fwd.trans f, e.len, fun i d h => let ⟨v, h1, h2⟩ := e.slot i d h; ⟨v, h1, h2.mono f⟩, e.sep, let ⟨A, h⟩ := e.sto; ⟨A, h.go f⟩⟩
theorem EnvOk.ex (e : EnvOk c S0 H0 G S H σ r) : Ex S H := e.fwd.sub
theorem EnvOk.tab0 (e : EnvOk c S0 H0 G S H σ r) : ∀ P q, c.tb P q → LamX.TabS H0 P q := let ⟨_, hA⟩ := e.sto; hA.tab
/-- the tables of code objects that the def may use -/
theorem EnvOk.tab (e : EnvOk c S0 H0 G S H σ r) {P : Addr} (h : c.tb P lamN) : LamX.TabS H P lamN := e.fwd.tb P (e.tab0 P lamN h)
theorem kd_set_self (G : List Ow) (i : Nat) : kd (G.set i .v) i = .v := by
  show (G.set i .v).getD i .v = .v
  rw [List.getD_eq_getElem?_getD, List.getElem?_set]
  split
  · split <;> rfl
  · rename_i h; exact absurd rfl h
theorem kd_set_ne {G : List Ow} {i j : Nat} {k : Ow} (h : i ≠ j) : kd (G.set i k) j = kd G j := by
  show (G.set i k).getD j .v = G.getD j .v
  rw [List.getD_eq_getElem?_getD, List.getD_eq_getElem?_getD, List.getElem?_set_ne h]
theorem kd_set_o {G : List Ow} {i : Nat} {k : Ow} (h : i < G.length) : kd (G.set i k) i = k := by
  show (G.set i k).getD i .v = k
  rw [List.getD_eq_getElem?_getD, List.getElem?_set_self h]; rfl
theorem set_some {α : Type} {l : List (Option α)} {i j : Nat} {a : Option α} {b : α} (h : (l.set i a)[j]? = some (some b)) : (i = j ∧ a = some b ∧ i < l.length) ∨ (i ≠ j ∧ l[j]? = some (some b)) := by
  by_cases e : i = j
  · subst e
    rw [List.getElem?_set] at h
    rw [if_pos rfl] at h
    split at h
    · rename_i hl; exact .inl ⟨rfl, Option.some.inj h, hl⟩
    · cases h
  · rw [List.getElem?_set_ne e] at h
    exact .inr ⟨e, h⟩
/-- a slot gets a value -/
theorem EnvOk.setV (e : EnvOk c S0 H0 G S H σ r) {v : V} {d : D} (i : Nat) (h : Rp c.K c.cm S v d) : EnvOk c S0 H0 (G.set i .v) S H (σ.set i (some v)) (r.set i (some d)) := by
  refine ⟨e.fwd, by simp [e.len], fun j b hb => ?_, fun j k b b' p hj hk kj kk sj sk => ?_, let ⟨A, hA⟩ := e.sto; ⟨A, hA.sub (fun a ha => (hA.out a ha).1) (fun _ _ => rfl) Ex.refl (fun j b q hj kj sj => ?_) fun j b kj hj => ?_⟩⟩
  · rcases set_some hb with ⟨rfl, ea, hl⟩ | ⟨ne, hb⟩
    · cases ea
      exact ⟨v, by rw [List.getElem?_set_self (by rw [e.len]; exact hl)], by rw [kd_set_self]; exact h⟩
    · obtain ⟨u, h1, h2⟩ := e.slot j b hb
      exact ⟨u, by rw [List.getElem?_set_ne ne]; exact h1, by rw [kd_set_ne ne]; exact h2⟩
  · have nj : i ≠ j := fun z => by subst z; rw [kd_set_self] at kj; cases kj
    have nk : i ≠ k := fun z => by subst z; rw [kd_set_self] at kk; cases kk
    rw [List.getElem?_set_ne nj] at hj sj
    rw [List.getElem?_set_ne nk] at hk sk
    rw [kd_set_ne nj] at kj
    rw [kd_set_ne nk] at kk
    exact e.sep j k b b' p hj hk kj kk sj sk
  · have nj : i ≠ j := fun z => by subst z; rw [kd_set_self] at kj; cases kj
    rw [List.getElem?_set_ne nj] at hj sj
    rw [kd_set_ne nj] at kj
    exact hA.own j b q hj kj sj
  · have nj : i ≠ j := fun z => by subst z; rw [kd_set_self] at kj; rcases kj with ⟨_, kj⟩ | kj <;> cases kj
    rw [List.getElem?_set_ne nj] at hj
    rw [kd_set_ne nj, List.getElem?_set_ne nj]
    exact ⟨rfl, hj, rfl⟩
/-- a slot gets a new mutable object -/
theorem EnvOk.setO (e : EnvOk c S0 H0 G S H σ r) (f : Fwd S H S' H') {p : Addr} {ho : HO} {d : D} (i : Nat) (hi : i < G.length) (n : H p = none) (ns : S' p = none) (hp : H' p = some ho) (h : RpO c.K c.cm S' ho d) :
    EnvOk c S0 H0 (G.set i .o) S' H' (σ.set i (some (.ref p))) (r.set i (some d)) := by
  have e' := e.go f
  have fresh : ∀ j b, r[j]? = some (some b) → isO (kd G j) → σ[j]? ≠ some (some (.ref p)) := fun j b hb kj sj => by
    obtain ⟨u, h1, h2⟩ := e.slot j b hb
    obtain ⟨q, ho', z1, z2, _⟩ := h2.o_of kj
    rw [sj] at h1; cases h1; cases z1
    rw [n] at z2; cases z2
  refine ⟨e'.fwd, by simp [e.len], fun j b hb => ?_, fun j k b b' q hj hk kj kk sj sk => ?_, let ⟨A, hA⟩ := e.sto; ⟨A, (hA.go f).sub (fun a ha => ((hA.go f).out a ha).1) (fun _ _ => rfl) Ex.refl (fun j b q hj kj sj => ?_) fun j b kj hj => ?_⟩⟩
  · rcases set_some hb with ⟨rfl, ea, hl⟩ | ⟨ne, hb⟩
    · cases ea
      refine ⟨.ref p, by rw [List.getElem?_set_self (by rw [e.len]; exact hl)], ?_⟩
      rw [kd_set_o hi]
      exact ⟨p, ho, rfl, hp, ns, e.fwd.h.nn n, h⟩
    · obtain ⟨u, h1, h2⟩ := e'.slot j b hb
      exact ⟨u, by rw [List.getElem?_set_ne ne]; exact h1, by rw [kd_set_ne ne]; exact h2⟩
  · by_cases nj : i = j
    · by_cases nk : i = k
      · rw [← nj, nk]
      · subst nj
        exfalso
        rcases set_some sj with ⟨_, ea, _⟩ | ⟨ne, _⟩
        · cases ea
          rw [List.getElem?_set_ne nk] at hk sk
          rw [kd_set_ne nk] at kk
          exact fresh k _ hk kk sk
        · exact ne rfl
    · by_cases nk : i = k
      · subst nk
        exfalso
        rcases set_some sk with ⟨_, ea, _⟩ | ⟨ne, _⟩
        · cases ea
          rw [List.getElem?_set_ne nj] at hj sj
          rw [kd_set_ne nj] at kj
          exact fresh j _ hj kj sj
        · exact ne rfl
      · rw [List.getElem?_set_ne nj] at hj sj
        rw [List.getElem?_set_ne nk] at hk sk
        rw [kd_set_ne nj] at kj
        rw [kd_set_ne nk] at kk
        exact e.sep j k b b' q hj hk kj kk sj sk
  · rcases set_some sj with ⟨_, ea, _⟩ | ⟨nj, sj⟩
    · cases ea
      intro ha
      obtain ⟨_, _, xs, h3⟩ := hA.out p ha
      rw [n] at h3; cases h3
    · rw [List.getElem?_set_ne nj] at hj
      rw [kd_set_ne nj] at kj
      exact hA.own j b q hj kj sj
  · have nj : i ≠ j := fun z => by subst z; rw [kd_set_o hi] at kj; rcases kj with ⟨_, kj⟩ | kj <;> cases kj
    rw [List.getElem?_set_ne nj] at hj
    rw [kd_set_ne nj, List.getElem?_set_ne nj]
    exact ⟨rfl, hj, rfl⟩
/-- the own object in slot i: its place -/
theorem EnvOk.ownI (e : EnvOk c S0 H0 G S H σ r) {i : Nat} {d : D} (k : isO (kd G i)) (h : r[i]? = some (some d)) : ∃ p ho, σ[i]? = some (some (.ref p)) ∧ H p = some ho ∧ S p = none ∧ H0 p = none ∧ RpO c.K c.cm S ho d := by
  obtain ⟨v, h1, h2⟩ := e.slot i d h
  obtain ⟨p, ho, rfl, h3⟩ := h2.o_of k
  exact ⟨p, ho, h1, h3⟩
/-- the own object in slot i is changed -/
theorem EnvOk.mutI (e : EnvOk c S0 H0 G S H σ r) {i : Nat} {d d' : D} {p : Addr} {ho' : HO} (k : isO (kd G i)) (h : r[i]? = some (some d)) (hs : σ[i]? = some (some (.ref p))) (h' : RpO c.K c.cm S ho' d') :
    EnvOk c S0 H0 G S (upd H p ho') σ (r.set i (some d')) := by
  obtain ⟨q, ho, s1, s2, s3, s4, s5⟩ := e.ownI k h
  rw [hs] at s1; cases s1
  have hf : Fwd S0 H0 S (upd H p ho') := ⟨e.fwd.s, e.fwd.h.put s4, e.fwd.sub.put s3, e.fwd.new, e.fwd.tb.trans (Tk.mut s2 s5)⟩
  refine ⟨hf, by simp [e.len], fun j b hb => ?_, fun j l b b' q hj hk kj kk sj sk => ?_, let ⟨A, hA⟩ := e.sto; ⟨A, hA.sub (fun a ha => (hA.out a ha).1) (fun a ha => upd_ne fun z => hA.own i d p h k hs (z ▸ ha)) Ex.refl (fun j b q hj kj sj => ?_) fun j b kj hj => ?_⟩⟩
  · rcases set_some hb with ⟨rfl, ea, hl⟩ | ⟨ne, hb⟩
    · cases ea
      refine ⟨.ref p, hs, ?_⟩
      cases kk : kd G i with
      | o => exact ⟨p, ho', rfl, upd_same, s3, s4, h'⟩
      | i a =>
        obtain ⟨u, h1, h2⟩ := e.slot i d h
        rw [kk] at h2
        rw [hs] at h1; cases h1
        exact ⟨h2.1, p, ho', rfl, upd_same, s3, s4, h'⟩
      | _ => rw [kk] at k; cases k
    · obtain ⟨u, h1, h2⟩ := e.slot j b hb
      refine ⟨u, h1, ?_⟩
      cases kj : kd G j with
      | v => rw [kj] at h2; exact h2
      | b => rw [kj] at h2; exact h2
      | s P => rw [kj] at h2; exact h2
      | w => rw [kj] at h2; exact h2
      | j a0 fs0 => rw [kj] at h2; exact h2
      | x a C dd => rw [kj] at h2; exact h2
      | o =>
        rw [kj] at h2
        obtain ⟨q, hq, z1, z2, z3, z4, z5⟩ := h2
        subst z1
        have : q ≠ p := fun z => by subst z; exact ne (e.sep i j d b q h hb k (by rw [kj]; trivial) hs h1)
        exact ⟨q, hq, rfl, by rw [upd_ne this]; exact z2, z3, z4, z5⟩
      | i a =>
        rw [kj] at h2
        obtain ⟨z0, q, hq, z1, z2, z3, z4, z5⟩ := h2
        subst z1
        have : q ≠ p := fun z => by subst z; exact ne (e.sep i j d b q h hb k (by rw [kj]; trivial) hs h1)
        exact ⟨z0, q, hq, rfl, by rw [upd_ne this]; exact z2, z3, z4, z5⟩
  · have un : ∀ m b, (r.set i (some d'))[m]? = some (some b) → ∃ b', r[m]? = some (some b') := fun m b hm => by
      rcases set_some hm with ⟨rfl, _, _⟩ | ⟨_, hm⟩
      · exact ⟨d, h⟩
      · exact ⟨b, hm⟩
    obtain ⟨b1, hj⟩ := un j b hj
    obtain ⟨b2, hk⟩ := un l b' hk
    exact e.sep j l b1 b2 q hj hk kj kk sj sk
  · rcases set_some hj with ⟨nj, _, _⟩ | ⟨_, hj⟩
    · subst nj
      exact hA.own i d q h kj sj
    · exact hA.own j b q hj kj sj
  · rcases set_some hj with ⟨nj, _, _⟩ | ⟨_, hj⟩
    · subst nj
      rcases kj with ⟨_, kj⟩ | kj <;> (rw [kj] at k; cases k)
    · exact ⟨rfl, hj, rfl⟩
theorem isO_o {k : Ow} (h : k = .o) : isO k := by rw [h]; trivial
theorem EnvOk.own (e : EnvOk c S0 H0 G S H σ r) {i : Nat} {d : D} (k : kd G i = .o) (h : r[i]? = some (some d)) : ∃ p ho, σ[i]? = some (some (.ref p)) ∧ H p = some ho ∧ S p = none ∧ H0 p = none ∧ RpO c.K c.cm S ho d := e.ownI (isO_o k) h
theorem EnvOk.mut (e : EnvOk c S0 H0 G S H σ r) {i : Nat} {d d' : D} {p : Addr} {ho' : HO} (k : kd G i = .o) (h : r[i]? = some (some d)) (hs : σ[i]? = some (some (.ref p))) (h' : RpO c.K c.cm S ho' d') :
    EnvOk c S0 H0 G S (upd H p ho') σ (r.set i (some d')) := e.mutI (isO_o k) h hs h'
theorem StoOk.un {A : List Addr} (hA : StoOk c.K c.cm c.tb H0 G S H σ r A) (i : Nat) (hk : kd G i = .o ∨ kd G i = .v) (hS : ∀ a ∈ A, S' a = none) (eS : Ex S S') : StoOk c.K c.cm c.tb H0 (G.set i .v) S' H σ r A :=
  hA.sub hS (fun _ _ => rfl) eS (fun j b q hj kj sj => by
    have nj : i ≠ j := fun z => by subst z; rw [kd_set_self] at kj; cases kj
    rw [kd_set_ne nj] at kj
    exact hA.own j b q hj kj sj) fun j b kj hj => by
    have nj : i ≠ j := fun z => by subst z; rw [kd_set_self] at kj; rcases kj with ⟨_, kj⟩ | kj <;> cases kj
    rw [kd_set_ne nj]
    exact ⟨rfl, hj, rfl⟩
theorem EnvOk.sto_un (e : EnvOk c S0 H0 G S H σ r) (i : Nat) (hk : kd G i = .o ∨ kd G i = .v) : ∃ A, StoOk c.K c.cm c.tb H0 (G.set i .v) S H σ r A :=
  let ⟨A, hA⟩ := e.sto
  ⟨A, hA.un i hk (fun a ha => (hA.out a ha).1) Ex.refl⟩
/-- the own object in slot i becomes a value, as ho2 -/
theorem EnvOk.pubG (e : EnvOk c S0 H0 G S H σ r) (i : Nat) (k : kd G i = .o) {d : D} (h : r[i]? = some (some d)) {p : Addr} {ho ho2 : HO} (s1 : σ[i]? = some (some (.ref p))) (s2 : H p = some ho) (s3 : S p = none) (s4 : H0 p = none) (hrp : Rp c.K c.cm (upd S p ho2) (.ref p) d) :
    EnvOk c S0 H0 (G.set i .v) (upd S p ho2) (upd H p ho2) σ r := by
  have hk : kd G i = .o ∨ kd G i = .v := .inl k
  have ex : Ex S (upd S p ho2) := Ex.new s3
  have tk : Tk H (upd H p ho2) := by
    obtain ⟨q, ho1, t1, t2, _, _, t5⟩ := e.own k h
    rw [s1] at t1; cases t1
    exact Tk.mut t2 t5
  refine ⟨⟨e.fwd.s.trans ex, e.fwd.h.put s4, e.fwd.sub.both, fun a u ha m => ?_, e.fwd.tb.trans tk⟩, e.len, fun j b hb => ?_, fun j l b b' q hj hk kj kk sj sk => ?_, let ⟨A, hA⟩ := e.sto; ⟨A, ?_⟩⟩
  · by_cases hh : a = p
    · subst hh; exact .inl s4
    · rw [upd_ne hh] at ha; exact e.fwd.new a u ha m
  · by_cases ne : i = j
    · subst ne
      rw [h] at hb; cases hb
      refine ⟨.ref p, s1, ?_⟩
      rw [kd_set_self]
      exact hrp
    · obtain ⟨u, h1, h2⟩ := e.slot j b hb
      refine ⟨u, h1, ?_⟩
      rw [kd_set_ne ne]
      cases kj : kd G j with
      | v => rw [kj] at h2; exact Rp.mono ex h2
      | b => rw [kj] at h2; exact RpB.mono h2 ex Ex.refl
      | s P => rw [kj] at h2; exact h2
      | w => rw [kj] at h2; exact h2
      | j a0 fs0 => rw [kj] at h2; exact h2
      | x a C dd =>
        rw [kj] at h2
        obtain ⟨y1, n, ns, ds, fs, y2, y3, y4, y5, y6⟩ := h2
        exact ⟨y1, n, ns, ds, fs, y2, y3, ex _ _ y4, y5, y6.mono ex⟩
      | o =>
        rw [kj] at h2
        obtain ⟨q, hq, z1, z2, z3, z4, z5⟩ := h2
        subst z1
        have : q ≠ p := fun z => by subst z; exact ne (e.sep i j d b q h hb (isO_o k) (isO_o kj) s1 h1)
        exact ⟨q, hq, rfl, by rw [upd_ne this]; exact z2, by rw [upd_ne this]; exact z3, z4, z5.mono ex⟩
      | i a =>
        rw [kj] at h2
        obtain ⟨z0, q, hq, z1, z2, z3, z4, z5⟩ := h2
        subst z1
        have : q ≠ p := fun z => by subst z; exact ne (e.sep i j d b q h hb (isO_o k) (by rw [kj]; trivial) s1 h1)
        exact ⟨z0, q, hq, rfl, by rw [upd_ne this]; exact z2, by rw [upd_ne this]; exact z3, z4, z5.mono ex⟩
  · have nj : i ≠ j := fun z => by subst z; rw [kd_set_self] at kj; cases kj
    have nl : i ≠ l := fun z => by subst z; rw [kd_set_self] at kk; cases kk
    rw [kd_set_ne nj] at kj
    rw [kd_set_ne nl] at kk
    exact e.sep j l b b' q hj hk kj kk sj sk
  · have np : ∀ a ∈ A, a ≠ p := fun a ha z => hA.own i d p h (isO_o k) s1 (z ▸ ha)
    refine hA.sub (fun a ha => by rw [upd_ne (np a ha)]; exact (hA.out a ha).1) (fun a ha => upd_ne (np a ha)) ex (fun j b q hj kj sj => ?_) fun j b kj hj => ?_
    · have nj : i ≠ j := fun z => by subst z; rw [kd_set_self] at kj; cases kj
      rw [kd_set_ne nj] at kj
      exact hA.own j b q hj kj sj
    · have nj : i ≠ j := fun z => by subst z; rw [kd_set_self] at kj; rcases kj with ⟨_, kj⟩ | kj <;> cases kj
      rw [kd_set_ne nj]
      exact ⟨rfl, hj, rfl⟩
theorem upd_eq {H : Hp} {p : Addr} {o : HO} (h : H p = some o) : upd H p o = H := by
  funext a
  by_cases e : a = p
  · rw [e, upd_same, h]
  · rw [upd_ne e]
/-- an own dict becomes a value: it is locked -/
theorem EnvOk.pubD (e : EnvOk c S0 H0 G S H σ r) (i : Nat) (k : kd G i = .o) {d : D} (h : r[i]? = some (some d)) (hd : isDct d = true) : ∃ p u, H p = some u ∧ Mut (some u) ∧ ∀ w, ∃ S', EnvOk c S0 H0 (G.set i .v) S' (upd H p (.frz w u)) σ r := by
  obtain ⟨p, ho, s1, s2, s3, s4, s5⟩ := e.own k h
  exact ⟨p, ho, s2, s5.mut, fun w => ⟨_, e.pubG i k h s1 s2 s3 s4 ((s5.mono (Ex.new s3)).pubD hd upd_same).1⟩⟩
/-- the own object in slot i becomes a value -/
theorem EnvOk.pub (e : EnvOk c S0 H0 G S H σ r) (i : Nat) (hk : kd G i = .o ∨ kd G i = .v) (nd : ∀ d, r[i]? = some (some d) → isDct d = false) : ∃ S', EnvOk c S0 H0 (G.set i .v) S' H σ r := by
  by_cases k : kd G i = .o
  · cases h : r[i]? with
    | none =>
      refine ⟨S, e.fwd, e.len, fun j b hb => ?_, fun j l b b' q hj hk kj kk sj sk => ?_, e.sto_un i hk⟩
      · have ne : i ≠ j := fun z => by subst z; rw [h] at hb; cases hb
        obtain ⟨u, h1, h2⟩ := e.slot j b hb
        exact ⟨u, h1, by rw [kd_set_ne ne]; exact h2⟩
      · have nj : i ≠ j := fun z => by subst z; rw [h] at hj; cases hj
        have nl : i ≠ l := fun z => by subst z; rw [h] at hk; cases hk
        rw [kd_set_ne nj] at kj
        rw [kd_set_ne nl] at kk
        exact e.sep j l b b' q hj hk kj kk sj sk
    | some od =>
      cases od with
      | none =>
        refine ⟨S, e.fwd, e.len, fun j b hb => ?_, fun j l b b' q hj hk kj kk sj sk => ?_, e.sto_un i hk⟩
        · have ne : i ≠ j := fun z => by subst z; rw [h] at hb; cases hb
          obtain ⟨u, h1, h2⟩ := e.slot j b hb
          exact ⟨u, h1, by rw [kd_set_ne ne]; exact h2⟩
        · have nj : i ≠ j := fun z => by subst z; rw [h] at hj; cases hj
          have nl : i ≠ l := fun z => by subst z; rw [h] at hk; cases hk
          rw [kd_set_ne nj] at kj
          rw [kd_set_ne nl] at kk
          exact e.sep j l b b' q hj hk kj kk sj sk
      | some d =>
        obtain ⟨p, ho, s1, s2, s3, s4, s5⟩ := e.own k h
        have := e.pubG i k h s1 s2 s3 s4 (ho2 := ho) ((s5.mono (Ex.new s3)).pub (nd d h) upd_same)
        rw [upd_eq s2] at this
        exact ⟨_, this⟩
  · have k' : kd G i = .v := hk.resolve_left k
    have all : ∀ j, kd (G.set i .v) j = kd G j := fun j => by
      by_cases ne : i = j
      · subst ne; rw [kd_set_self, k']
      · exact kd_set_ne ne
    exact ⟨S, e.fwd, e.len, fun j b hb => by rw [all]; exact e.slot j b hb, fun j l b b' q hj hk kj kk sj sk => e.sep j l b b' q hj hk ((all j) ▸ kj) ((all l) ▸ kk) sj sk, e.sto_un i hk⟩
end
end Dx
end S_DxA
section S_DxB
set_option Elab.async false
set_option linter.all false
set_option maxRecDepth 100000
set_option maxHeartbeats 2000000
namespace Dx
open PySem L2
/-- what is wanted behind a result, from (S, H) on -/
def PostG (c : Cf) (σ : St) (S H : Hp) {α : Type} (r : Res α) (k : α → Hp → Hp → Prop) : Prop :=
  match r with
  | .ok a => ∀ S' H', Fwd S H S' H' → k a S' H'
  | .err n ns vs => ∀ C dd S' H' fs, c.cm n = some C → Fwd S H S' H' → S' dd = some (.xd fs) → ns = fs.map (·.1) → RpA c.K c.cm S' (fs.map (·.2)) vs → c.W (.ref C) (some dd) σ H'
  | .bad => False
section
variable {c : Cf} {σ : St} {S H S1 H1 : Hp} {α β : Type} {r : Res α} {k k' : α → Hp → Hp → Prop}
theorem PostG.mono (h : PostG c σ S H r k) (f : Fwd S H S1 H1) : PostG c σ S1 H1 r k := by
  cases r with
  | ok a => exact fun S' H' g => h S' H' (f.trans g)
  | err n ns vs => exact fun C dd S' H' fs h1 g h2 h3 h4 => h C dd S' H' fs h1 (f.trans g) h2 h3 h4
  | bad => exact h
theorem PostG.imp (h : PostG c σ S H r k) (hk : ∀ a S' H', Fwd S H S' H' → k a S' H' → k' a S' H') : PostG c σ S H r k' := by
  cases r with
  | ok a => exact fun S' H' g => hk a S' H' g (h S' H' g)
  | err n ns vs => exact h
  | bad => exact h
theorem PostG.unbind {g : α → Res β} {k : β → Hp → Hp → Prop} (h : PostG c σ S H (r.bind g) k) : PostG c σ S H r fun a S' H' => PostG c σ S' H' (g a) k := by
  cases r with
  | ok a => exact fun S' H' f => PostG.mono (show PostG c σ S H (g a) k from h) f
  | err n ns vs => exact h
  | bad => exact h
end
/-- x where p holds; nothing is reckoned for it -/
noncomputable def guard {α : Type} (p : Prop) (x : Res α) : Res α := @ite _ p (Classical.propDecidable p) x .bad
theorem guard_pos {α : Type} {p : Prop} {x : Res α} (h : p) : guard p x = x := by unfold guard; exact if_pos h
theorem PostG.gd {c : Cf} {σ : St} {S H : Hp} {α : Type} {p : Prop} {x : Res α} {k : α → Hp → Hp → Prop} (h : PostG c σ S H (guard p x) k) : p ∧ PostG c σ S H x k := by
  by_cases hp : p
  · rw [guard_pos hp] at h; exact ⟨hp, h⟩
  · unfold guard at h; rw [if_neg hp] at h; exact h.elim
/-- a mode: what the heap ahead, the heaps behind, the machine's result and the data have in common -/
abbrev Md (β α : Type) := Hp → Hp → Hp → β → α → Prop
class Anti {β α : Type} (R : Md β α) : Prop where
  anti : ∀ {H H2 S' H' : Hp} {b : β} {a : α}, Ex H H2 → R H2 S' H' b a → R H S' H' b a
def mV (c : Cf) : Md V D := fun _ S' _ v d => Rp c.K c.cm S' v d
def mB (c : Cf) : Md V D := fun _ S' H' v d => RpB c.K c.cm S' H' v d
def mO (c : Cf) : Md V D := fun H S' H' v d => ∃ p ho, v = .ref p ∧ H p = none ∧ S' p = none ∧ H' p = some ho ∧ RpO c.K c.cm S' ho d
def mA (c : Cf) : Md (List V) (List D) := fun _ S' _ vs ds => RpA c.K c.cm S' vs ds
def mE (α : Type) : Md α α := fun _ _ _ b a => b = a
instance {c : Cf} : Anti (mV c) := ⟨fun _ h => h⟩
instance {c : Cf} : Anti (mB c) := ⟨fun _ h => h⟩
instance {c : Cf} : Anti (mA c) := ⟨fun _ h => h⟩
instance {α : Type} : Anti (mE α) := ⟨fun _ h => h⟩
instance {c : Cf} : Anti (mO c) := ⟨fun e ⟨p, ho, h1, h2, h3⟩ => ⟨p, ho, h1, e.nn h2, h3⟩⟩
/-- the reading of a piece whose data is f -/
def rd (c : Cf) (G : List Ow) {α β : Type} (f : Rho → Res α) (R : Md β α) : St → Hp → (β → Hp → Prop) → Prop := fun σ H Q =>
  ∃ S0 H0 S r, EnvOk c S0 H0 G S H σ r ∧ PostG c σ S H (f r) fun a S' H' => ∀ b, R H S' H' b a → Q b H'
abbrev tV (c : Cf) (G : List Ow) (f : Rho → Res D) : TE := rd c G f (mV c)
abbrev tR (c : Cf) (G : List Ow) (f : Rho → Res D) : TE := rd c G f (mB c)
abbrev tO (c : Cf) (G : List Ow) (f : Rho → Res D) : TE := rd c G f (mO c)
abbrev tT (c : Cf) (G : List Ow) (f : Rho → Res Bool) : TT := rd c G f (mE Bool)
abbrev tAs (c : Cf) (G : List Ow) (f : Rho → Res (List D)) : TA := rd c G f (mA c)
theorem pe_imp {X : Cx} {e : Expr} {t t' : TE} (h : PE X e t) (k : ∀ σ H Q, t' σ H Q → t σ H Q) : PE X e t' := ⟨fun pins s σ H Q I q => h.run pins s σ H Q I (k σ H Q q)⟩
theorem pt_imp {X : Cx} {e : Expr} {t t' : TT} (h : PT X e t) (k : ∀ σ H Q, t' σ H Q → t σ H Q) : PT X e t' := ⟨fun pins s σ H Q I q => h.run pins s σ H Q I (k σ H Q q)⟩
theorem pa_imp {X : Cx} {es : List Expr} {t t' : TA} (h : PA X es t) (k : ∀ σ H Q, t' σ H Q → t σ H Q) : PA X es t' := ⟨fun p pins s σ H Q I q => h.run p pins s σ H Q I (k σ H Q q)⟩
theorem ps_imp {X : Cx} {st : Stmt} {t t' : TS} (h : PS X st t) (k : ∀ E σ H, t' E σ H → t E σ H) : PS X st t' := ⟨fun pins s σ H E I q => h.run pins s σ H E I (k E σ H q)⟩
theorem pss_imp {X : Cx} {st : List Stmt} {t t' : TS} (h : PSs X st t) (k : ∀ E σ H, t' E σ H → t E σ H) : PSs X st t' := ⟨fun pins s σ H E I q => h.run pins s σ H E I (k E σ H q)⟩
section
variable {c : Cf} {G : List Ow} {σ : St} {S0 H0 S H : Hp} {r : Rho} {α β γ : Type}
/-- one piece, then what follows -/
theorem rd_seq {f : Rho → Res α} {R : Md β α} (e : EnvOk c S0 H0 G S H σ r) {g : α → Res γ} {k : γ → Hp → Hp → Prop} (p : PostG c σ S H ((f r).bind g) k) {Q : β → Hp → Prop}
    (h : ∀ a b S' H', Fwd S H S' H' → EnvOk c S0 H0 G S' H' σ r → R H S' H' b a → PostG c σ S' H' (g a) k → Q b H') : rd c G f R σ H Q :=
  ⟨S0, H0, S, r, e, p.unbind.imp fun a S' H' fw hk b hb => h a b S' H' fw (e.go fw) hb hk⟩
theorem PostG.anti {R : Md β α} [Anti R] {H2 : Hp} {x : Res α} {Q : β → Hp → Prop} (e : Ex H H2) {S2 : Hp} (p : PostG c σ S2 H2 x fun a S' H' => ∀ b, R H S' H' b a → Q b H') :
    PostG c σ S2 H2 x fun a S' H' => ∀ b, R H2 S' H' b a → Q b H' := p.imp fun _ _ _ _ hk b hb => hk b (Anti.anti e hb)
/-- the wish behind a value that is there -/
theorem PostG.here {R : Md β α} {a : α} {b : β} {Q : β → Hp → Prop} (p : PostG c σ S H (.ok a) fun a S' H' => ∀ b, R H S' H' b a → Q b H') (e : Ex S H) (h : R H S H b a) : Q b H := p S H (Fwd.refl e) b h
theorem PostG.go {a : α} {k : α → Hp → Hp → Prop} (p : PostG c σ S H (.ok a) k) (e : Ex S H) : k a S H := p S H (Fwd.refl e)
/-- .. behind a new object that stays; that is kept own -/
theorem PostG.laid {d : D} {o : HO} {q : Addr} {Q : VK} (p : PostG c σ S H (.ok d) fun a S' H' => ∀ b, mV c H S' H' b a → Q b H') (e : Ex S H) (n : H q = none) (h : Rp c.K c.cm (upd S q o) (.ref q) d) : Q (.ref q) (upd H q o) :=
  p _ _ (Fwd.both e n) _ h
theorem PostG.kept {d : D} {o : HO} {q : Addr} {Q : VK} (p : PostG c σ S H (.ok d) fun a S' H' => ∀ b, mO c H S' H' b a → Q b H') (e : Ex S H) (n : H q = none) (h : RpO c.K c.cm S o d) : Q (.ref q) (upd H q o) :=
  p _ _ (Fwd.heap e n) _ ⟨q, o, rfl, n, e.nn n, upd_same, h⟩
end
/-- .. or so as soon as a told object is locked -/
def Lo (Q : Hp → Prop) (H : Hp) : Prop := Q H ∨ ∃ p u, H p = some u ∧ Mut (some u) ∧ ∀ w, Q (upd H p (.frz w u))
theorem Fwd.pubF {S H S' H' : Hp} {p : Addr} {o : HO} (f : Fwd S H S' H') (n : H p = none) (ns : S' p = none) (tk : Tk H' (upd H' p o)) : Fwd S H (upd S' p o) (upd H' p o) :=
  ⟨f.s.trans (Ex.new ns), f.h.put n, f.sub.both, fun a u ha m => (by
    by_cases hh : a = p
    · subst hh; exact .inl n
    · rw [upd_ne hh] at ha; exact f.new a u ha m), f.tb.trans tk⟩
section
variable {X : Cx}
theorem pe_lock {e : Expr} {t t2 : TE} (h : PE X e t) (k : ∀ σ H Q, t2 σ H Q → t σ H fun v H' => Lo (Q v) H') : PE X e t2 := ⟨fun pins s σ H Q I q => thn (h.run pins s σ H _ I (k _ _ _ q)) fun u s' ⟨v, H', I', r, z⟩ => by
  rcases z with z | ⟨p, ho, h1, h2, z⟩
  · exact ⟨v, H', I', r, z⟩
  · obtain ⟨od, I2⟩ := I'.lock h1 h2
    exact ⟨v, _, I2, r, z od⟩⟩
theorem pss_lock {st : List Stmt} {t t2 : TS} (h : PSs X st t) (k : ∀ E σ H, t2 E σ H → Lo (fun H => t E σ H) H) : PSs X st t2 := ⟨fun pins s σ H E I q => by
  rcases k _ _ _ q with z | ⟨p, ho, h1, h2, z⟩
  · exact h.run pins s σ H E I z
  · obtain ⟨od, I2⟩ := I.lock h1 h2
    exact h.run pins s σ _ E I2 (z od)⟩
theorem pss_lockE {st : List Stmt} {t t2 : TS} (h : PSs X st t) (k : ∀ (E : Ends) σ H, t2 E σ H → t { E with nx := fun σ H => Lo (E.nx σ) H } σ H) : PSs X st t2 := ⟨fun pins s σ H E I q => thn (h.run pins s σ H _ I (k _ _ _ q)) fun f s' z => by
  cases f with
  | next =>
    obtain ⟨σ', H', I', z⟩ := z
    rcases z with z | ⟨p, ho, h1, h2, z⟩
    · exact ⟨σ', H', I', z⟩
    · obtain ⟨od, I2⟩ := I'.lock h1 h2
      exact ⟨σ', _, I2, z od⟩
  | brk => exact z
  | cont => exact z
  | ret u => exact z⟩
end
section
variable {X : Cx} {c : Cf} {G : List Ow} {f f1 f2 : Rho → Res D} {a b e : Expr} {pos : Pos}
theorem de_pub (h : PE X e (tO c G f)) : PE X e (tV c G f) := pe_lock h fun σ H Q ⟨S0, H0, S, r, ok, p⟩ => ⟨S0, H0, S, r, ok, by
  revert p
  cases f r with
  | ok d =>
    intro p S' H' fw b hb
    obtain ⟨q, ho, rfl, h1, h2, h3, h4⟩ := hb
    cases hd : isDct d with
    | false =>
      have fw' := fw.pub h1 h2 h3
      exact .inl (p _ H' fw' _ ((h4.mono (Ex.new h2)).pub hd upd_same))
    | true => exact .inr ⟨q, ho, h3, h4.mut, fun w => p _ _ (fw.pubF h1 h2 (Tk.mut h3 h4)) _ ((h4.mono (Ex.new h2)).pubD hd upd_same).1⟩
  | err n ns vs => exact id
  | bad => exact id⟩
theorem db_of (h : PE X e (tV c G f)) : PE X e (tR c G f) := pe_imp h fun σ H Q ⟨S0, H0, S, r, ok, p⟩ => ⟨S0, H0, S, r, ok, p.imp fun _ _ _ _ hk b hb => hk b (.inl hb)⟩
theorem db_own (h : PE X e (tO c G f)) : PE X e (tR c G f) := db_of (de_pub h)
def dVar (i : Nat) : Rho → Res D := fun r => match r[i]? with
  | some (some d) => .ok d
  | _ => .bad
def dC (d : D) : Rho → Res D := fun _ => .ok d
theorem of_dVar {σ : St} {S H : Hp} {i : Nat} {r : Rho} {k : D → Hp → Hp → Prop} (p : PostG c σ S H (dVar i r) k) : ∃ d, r[i]? = some (some d) ∧ PostG c σ S H (.ok d) k := by
  unfold dVar at p
  split at p
  · exact ⟨_, by assumption, p⟩
  · exact p.elim
theorem de_var (i : Nat) {x : Str} (h : PE X (.Name x pos) (tVar i)) (k : kd G i = .v) : PE X (.Name x pos) (tV c G (dVar i)) := pe_imp h fun σ H Q ⟨S0, H0, S, r, ok, p⟩ => by
  obtain ⟨d, hd, p⟩ := of_dVar p
  obtain ⟨v, h1, h2⟩ := ok.slot i d hd
  rw [k] at h2
  exact ⟨v, h1, p.here ok.ex h2⟩
theorem db_var (i : Nat) {x : Str} (h : PE X (.Name x pos) (tVar i)) (k : kd G i = .v ∨ isO (kd G i) ∨ kd G i = .b) : PE X (.Name x pos) (tR c G (dVar i)) := pe_imp h fun σ H Q ⟨S0, H0, S, r, ok, p⟩ => by
  obtain ⟨d, hd, p⟩ := of_dVar p
  obtain ⟨v, h1, h2⟩ := ok.slot i d hd
  refine ⟨v, h1, p.here ok.ex ?_⟩
  rcases k with k | k | k
  · rw [k] at h2; exact .inl h2
  · obtain ⟨q, ho, z1, z2, z3, z4, z5⟩ := h2.o_of k
    exact .inr ⟨q, ho, z1, z2, z5⟩
  · rw [k] at h2
    exact RpB.mono h2 Ex.refl ok.fwd.h
theorem de_c {v : V} {d : D} (h : PE X e (tC v)) (hd : ∀ S, Rp c.K c.cm S v d) : PE X e (tV c G (dC d)) := pe_imp h fun σ H Q ⟨S0, H0, S, r, ok, p⟩ => p.here ok.ex (hd S)
theorem de_int {i : Int} {j : Nat} : PE X (.Constant (.int i) j pos) (tV c G (dC (.int i))) := de_c pe_int fun _ => .int i
theorem de_bl {b : Bool} {j : Nat} : PE X (.Constant (.bool b) j pos) (tV c G (dC (.bl b))) := de_c pe_bl fun _ => .bl b
theorem de_non {j : Nat} : PE X (.Constant .none j pos) (tV c G (dC .non)) := de_c pe_non fun _ => .non
theorem de_str {x : Str} {j : Nat} : PE X (.Constant (.str x) j pos) (tV c G (dC (.str x))) := de_c pe_str fun _ => .str x
def dOp (g : D → D → Res D) (f1 f2 : Rho → Res D) : Rho → Res D := fun r => (f1 r).bind fun x => (f2 r).bind fun y => g x y
def OpS (c : Cf) (R : Md V D) (r2 : R2) (g : D → D → Res D) : Prop := ∀ (σ : St) (S H : Hp) (x y : V) (d e : D) (Q : VK), Ex S H → RpB c.K c.cm S H x d → RpB c.K c.cm S H y e →
  PostG c σ S H (g d e) (fun a S' H' => ∀ b, R H S' H' b a → Q b H') → r2 x y H Q
theorem op_rd {R : Md V D} [Anti R] {r2 : R2} {g : D → D → Res D} (hs : OpS c R r2 g) : ∀ σ H Q, rd c G (dOp g f1 f2) R σ H Q → tOp r2 (tR c G f1) (tR c G f2) σ H Q := fun σ H Q ⟨S0, H0, S, r, ok, p⟩ =>
  rd_seq ok p fun x v S1 H1 w1 o1 m1 p1 => rd_seq o1 p1 fun y u S2 H2 w2 o2 m2 p2 => hs σ S2 H2 v u x y Q o2.ex (RpB.mono m1 w2.s w2.h) m2 (p2.anti (w1.h.trans w2.h))
theorem de_op {R : Md V D} [Anti R] {op : Operator} {r2 : R2} {g : D → D → Res D} (ho : OpR X (binaryOp op) r2) (hs : OpS c R r2 g) (ha : PE X a (tR c G f1)) (hb : PE X b (tR c G f2)) : PE X (.BinOp a op b pos) (rd c G (dOp g f1 f2) R) :=
  pe_imp (pe_op ho ha hb) (op_rd hs)
theorem de_cmp {R : Md V D} [Anti R] {op : CmpOp} {r2 : R2} {g : D → D → Res D} (ho : OpR X (compareOp op) r2) (hs : OpS c R r2 g) (ha : PE X a (tR c G f1)) (hb : PE X b (tR c G f2)) (hm : behindInMarks op b = false) :
    PE X (.Compare a [op] [b] pos) (rd c G (dOp g f1 f2) R) := pe_imp (pe_cmpR ho ha hb hm) (op_rd hs)
/-- a truth value as a test -/
def asB : D → Res Bool
  | .bl b => .ok b
  | _ => .bad
def dT (f : Rho → Res D) : Rho → Res Bool := fun r => (f r).bind asB
theorem of_asB {σ : St} {S H : Hp} {d : D} {k : Bool → Hp → Hp → Prop} (p : PostG c σ S H (asB d) k) : ∃ b, d = .bl b ∧ PostG c σ S H (.ok b) k := by
  cases d with
  | bl b => exact ⟨b, rfl, p⟩
  | _ => exact p.elim
theorem dt_cmp {op : CmpOp} {r2 : R2} {g : D → D → Res D} (ho : OpR X (compareOp op) r2) (hs : OpS c (mV c) r2 g) (ha : PE X a (tR c G f1)) (hb : PE X b (tR c G f2)) (hm : behindInMarks op b = false) :
    PT X (.Compare a [op] [b] pos) (tT c G (dT (dOp g f1 f2))) := pt_imp (pt_cmpR ho ha hb hm) fun σ H Q ⟨S0, H0, S, r, ok, p⟩ => by
  refine op_rd (G := G) (f1 := f1) (f2 := f2) hs σ H _ (rd_seq ok p fun d v S1 H1 w1 o1 m1 p1 => ?_)
  obtain ⟨b, rfl, p1⟩ := of_asB p1
  cases m1
  exact ⟨b, rfl, p1.go o1.ex _ rfl⟩
/-- an expression whose value is True or False, as a test -/
theorem dt_val (h : PE X e (tV c G f)) (he : ∀ whole, isTrue e X.env whole = (do let v ← whole; standAt e.pos; holding [v] (truthy v)) := by intro _; rfl) : PT X e (tT c G (dT f)) :=
  pt_imp (pt_val h he) fun σ H Q ⟨S0, H0, S, r, ok, p⟩ => rd_seq ok p fun d v S1 H1 w1 o1 m1 p1 => by
    obtain ⟨b, rfl, p1⟩ := of_asB p1
    cases m1
    exact ⟨b, rfl, p1.go o1.ex _ rfl⟩
variable {t1 t2 : Rho → Res Bool} {rest : List Expr}
def dAnd (t u : Rho → Res Bool) : Rho → Res Bool := fun r => (t r).bind fun b => if b = true then u r else .ok false
def dOr (t u : Rho → Res Bool) : Rho → Res Bool := fun r => (t r).bind fun b => if b = true then .ok true else u r
def dNot (t : Rho → Res Bool) : Rho → Res Bool := fun r => (t r).bind fun b => .ok (!b)
def dIf {α : Type} (t : Rho → Res Bool) (f g : Rho → Res α) : Rho → Res α := fun r => (t r).bind fun b => if b = true then f r else g r
theorem pw_imp {t t' : TT} (h : PW X e t) (k : ∀ σ H Q, t' σ H Q → t σ H Q) : PW X e t' := ⟨fun w pins s σ H Q I q => h.run w pins s σ H Q I (k σ H Q q)⟩
theorem dw_and1 (ha : PT X a (tT c G t1)) : PW X (.BoolOp .And [a] pos) (tT c G t1) := pw_and1 ha
theorem dw_or1 (ha : PT X a (tT c G t1)) : PW X (.BoolOp .Or [a] pos) (tT c G t1) := pw_or1 ha
theorem dw_and (ha : PT X a (tT c G t1)) (hb : PW X (.BoolOp .And (b :: rest) pos) (tT c G t2)) : PW X (.BoolOp .And (a :: b :: rest) pos) (tT c G (dAnd t1 t2)) := pw_imp (pw_and ha hb) fun σ H Q ⟨S0, H0, S, r, ok, p⟩ =>
  rd_seq ok p fun x v S1 H1 w1 o1 m1 p1 => by
    rw [show v = x from m1]
    cases x with
    | true => exact ⟨S0, H0, S1, r, o1, p1⟩
    | false => exact p1.go o1.ex _ rfl
theorem dw_or (ha : PT X a (tT c G t1)) (hb : PW X (.BoolOp .Or (b :: rest) pos) (tT c G t2)) : PW X (.BoolOp .Or (a :: b :: rest) pos) (tT c G (dOr t1 t2)) := pw_imp (pw_or ha hb) fun σ H Q ⟨S0, H0, S, r, ok, p⟩ =>
  rd_seq ok p fun x v S1 H1 w1 o1 m1 p1 => by
    rw [show v = x from m1]
    cases x with
    | true => exact p1.go o1.ex _ rfl
    | false => exact ⟨S0, H0, S1, r, o1, p1⟩
theorem dt_not (ha : PT X a (tT c G t1)) : PT X (.UnaryOp .Not a pos) (tT c G (dNot t1)) := pt_imp (pt_not ha) fun σ H Q ⟨S0, H0, S, r, ok, p⟩ =>
  rd_seq ok p fun x v S1 H1 w1 o1 m1 p1 => by
    rw [show v = x from m1]
    exact p1.go o1.ex _ rfl
/-- and, or, not as values: all True or False -/
def dAndV (f g : Rho → Res D) : Rho → Res D := fun r => (f r).bind fun x => (asB x).bind fun b => if b = true then g r else .ok (.bl false)
def dOrV (f g : Rho → Res D) : Rho → Res D := fun r => (f r).bind fun x => (asB x).bind fun b => if b = true then .ok (.bl true) else g r
def dNotV (f : Rho → Res D) : Rho → Res D := fun r => (f r).bind fun x => (asB x).bind fun b => .ok (.bl (!b))
end
end Dx
end S_DxB
section S_DxC
set_option Elab.async false
set_option linter.all false
set_option maxRecDepth 100000
set_option maxHeartbeats 2000000
namespace Dx
open PySem L2
mutual
def toPy : D → Option PyData
  | .non => some .none
  | .bl b => some (.bool b)
  | .int i => some (.int i)
  | .str s => some (.str s)
  | .lst ds => (toPyL ds).map .list
  | .fz ds => (toPyL ds).map .list
  | .tup ds => (toPyL ds).map .tuple
  | .kt ds => (toPyL ds).map .tuple
  | .dk _ _ => none
  | .dt _ _ => none
  | .dn _ _ => none
  | .obj _ _ _ => none
  | .own _ => none
  | .st _ _ => none
def toPyL : List D → Option (List PyData)
  | [] => some []
  | d :: ds => match toPy d, toPyL ds with
    | some p, some ps => some (p :: ps)
    | _, _ => none
end
section
variable {K : PySem.W.Frag} {cm : CM} {S H : Hp}
mutual
theorem Rp.dp (e : Ex S H) : ∀ {v : V} {d : D} {p : PyData}, Rp K cm S v d → toPy d = some p → Dp K H v p
  | _, .non, _, h, q => by cases h; cases q; exact .non
  | _, .bl _, _, h, q => by cases h; cases q; exact .bl _
  | _, .int _, _, h, q => by cases h; cases q; exact .int _
  | _, .str _, _, h, q => by cases h; cases q; exact .str _
  | _, .lst ds, _, h, q => by
    cases h with | lst a r =>
    rw [toPy] at q
    obtain ⟨ps, h1, rfl⟩ := Option.map_eq_some_iff.mp q
    exact .lst (.inl (.inl (e _ _ a))) (RpA.dp e r h1)
  | _, .fz ds, _, h, q => by
    cases h with | fz a r =>
    rw [toPy] at q
    obtain ⟨ps, h1, rfl⟩ := Option.map_eq_some_iff.mp q
    exact .lst (e.l a) (RpA.dp e r h1)
  | _, .tup ds, _, h, q => by
    cases h with | tup a r =>
    rw [toPy] at q
    obtain ⟨ps, h1, rfl⟩ := Option.map_eq_some_iff.mp q
    exact .tup (.inl (.inl (e _ _ a))) (RpA.dp e r h1)
  | _, .kt ds, _, h, q => by
    cases h with | kt a r =>
    rw [toPy] at q
    obtain ⟨ps, h1, rfl⟩ := Option.map_eq_some_iff.mp q
    exact .tup (e.t a) (RpA.dp e r h1)
  | _, .dk _ _, _, h, q => by cases q
  | _, .dt _ _, _, h, q => by cases q
  | _, .dn _ _, _, h, q => by cases q
  | _, .obj _ _ _, _, h, q => by cases q
theorem RpA.dp (e : Ex S H) : ∀ {vs : List V} {ds : List D} {ps : List PyData}, RpA K cm S vs ds → toPyL ds = some ps → DpAll K H vs ps
  | _, [], _, h, q => by cases h; cases q; exact .nil
  | _, d :: ds, _, h, q => by
    cases h with | cons a r =>
    rw [toPyL] at q
    cases h1 : toPy d with
    | none => rw [h1] at q; cases q
    | some p =>
      cases h2 : toPyL ds with
      | none => rw [h1, h2] at q; cases q
      | some ps =>
        rw [h1, h2] at q
        cases q
        exact .cons (Rp.dp e a h1) (RpA.dp e r h2)
end
theorem RpB.dp {v : V} {d : D} {p : PyData} (e : Ex S H) (h : RpB K cm S H v d) (q : toPy d = some p) : Dp K H v p := by
  rcases h with h | ⟨a, ho, rfl, h2, h3⟩
  · exact h.dp e q
  · cases h3 with
    | lst r =>
      rw [toPy] at q
      obtain ⟨ps, h1, rfl⟩ := Option.map_eq_some_iff.mp q
      exact .lst (.inl (.inl h2)) (r.dp e h1)
    | dk _ _ => cases q
    | dt _ _ => cases q
    | dn _ _ _ => cases q
    | obj _ _ _ => cases q
end
noncomputable def addD : D → D → Res D
  | .int i, .int j => .ok (.int (i + j))
  | .str a, .str b => guard (a.length + b.length ≤ sizeLine) (.ok (.str (a ++ b)))
  | .tup a, .tup b => guard (a.length + b.length ≤ sizeLine) (.ok (.tup (a ++ b)))
  | .lst a, .lst b => guard (a.length + b.length ≤ sizeLine) (.ok (.lst (a ++ b)))
  | _, _ => .bad
def rAddX (K : PySem.W.Frag) : R2 := fun x y H Q => (rI0 (fun i j => .int (i + j))) x y H Q ∨ (∃ i j, x = .str i ∧ y = .str j ∧ i.length + j.length ≤ sizeLine ∧ Q (.str (i ++ j)) H) ∨ rCatA K x y H Q ∨ rCat x y H Q
section
variable {X : Cx} {c : Cf}
theorem or_add : OpR X (binaryOp .Add) (rAddX X.K) := op_add.or (op_add_str.or (op_catA.or op_cat))
theorem PostG.ite {σ : St} {S H : Hp} {α : Type} {p : Prop} [Decidable p] {x : Res α} {k : α → Hp → Hp → Prop} (h : PostG c σ S H (if p then x else .bad) k) : p ∧ PostG c σ S H x k := by
  by_cases hp : p
  · rw [if_pos hp] at h; exact ⟨hp, h⟩
  · rw [if_neg hp] at h; exact h.elim
theorem os_add : OpS c (mV c) (rAddX c.K) addD := by
  intro σ S H x y d e Q ex hx hy p
  unfold addD at p
  split at p
  · cases hx.int; cases hy.int
    exact .inl ⟨_, _, rfl, rfl, p.here ex (.int _)⟩
  · cases hx.str; cases hy.str
    obtain ⟨hl, p⟩ := p.gd
    exact .inr (.inl ⟨_, _, rfl, rfl, hl, p.here ex (.str _)⟩)
  · obtain ⟨q1, xs, rfl, a1, r1, s1⟩ := hx.tup ex
    obtain ⟨q2, ys, rfl, a2, r2, s2⟩ := hy.tup ex
    obtain ⟨hl, p⟩ := p.gd
    refine .inr (.inr (.inl ⟨_, _, xs, ys, rfl, rfl, a1, a2, by rw [r1.length, r2.length]; exact hl, fun h => ?_, fun _ h => ?_, fun _ _ q hq => ?_⟩))
    · subst h; cases r1; exact p.here ex (.tup s2 r2)
    · subst h; cases r2; rw [List.append_nil] at p; exact p.here ex (.tup s1 r1)
    · exact p.laid ex hq (.tup upd_same ((r1.app r2).mono (Ex.new (ex.nn hq))))
  · obtain ⟨q1, xs, rfl, a1, r1⟩ := hx.list ex
    obtain ⟨q2, ys, rfl, a2, r2⟩ := hy.list ex
    obtain ⟨hl, p⟩ := p.gd
    refine .inr (.inr (.inr ⟨_, _, xs, ys, rfl, rfl, a1, a2, by rw [r1.length, r2.length]; exact hl, fun q hq => ?_⟩))
    exact p.laid ex hq (.lst upd_same ((r1.app r2).mono (Ex.new (ex.nn hq))))
  · exact p.elim
/-- list + list, the new list one's own -/
noncomputable def addL : D → D → Res D
  | .lst a, .lst b => guard (a.length + b.length ≤ sizeLine) (.ok (.lst (a ++ b)))
  | _, _ => .bad
def subD : D → D → Res D
  | .int i, .int j => .ok (.int (i - j))
  | _, _ => .bad
theorem os_sub : OpS c (mV c) (rI0 fun i j => .int (i - j)) subD := by
  intro σ S H x y d e Q ex hx hy p
  unfold subD at p
  split at p
  · cases hx.int; cases hy.int
    exact ⟨_, _, rfl, rfl, p.here ex (.int _)⟩
  · exact p.elim
def smallI (i : Int) : Prop := -(2 ^ 64) < i ∧ i < 2 ^ 64
theorem RpA.rep {K : PySem.W.Frag} {cm : CM} {S : Hp} {vs : List V} {ds : List D} (h : RpA K cm S vs ds) : ∀ n : Nat, RpA K cm S (List.replicate n vs).flatten (List.replicate n ds).flatten
  | 0 => .nil
  | n + 1 => by rw [List.replicate_succ, List.replicate_succ, List.flatten_cons, List.flatten_cons]; exact h.app (RpA.rep h n)
noncomputable def mulD : D → D → Res D
  | .int i, .int j => guard (smallI i ∨ smallI j) (.ok (.int (i * j)))
  | .lst a, .int k => guard (0 ≤ k ∧ k < 2 ^ 60 ∧ a.length * k.toNat ≤ sizeLine) (.ok (.lst (List.replicate k.toNat a).flatten))
  | _, _ => .bad
def rMulX : R2 := fun x y H Q => (rI CMul (fun i j => .int (i * j))) x y H Q ∨ rRep x y H Q
theorem or_mul : OpR X (binaryOp .Mult) rMulX := op_mul.or op_rep
theorem os_mul : OpS c (mV c) rMulX mulD := by
  intro σ S H x y d e Q ex hx hy p
  unfold mulD at p
  split at p
  · cases hx.int; cases hy.int
    obtain ⟨hl, p⟩ := p.gd
    exact .inl ⟨_, _, rfl, rfl, hl, p.here ex (.int _)⟩
  · obtain ⟨q1, xs, rfl, a1, r1⟩ := hx.list ex
    cases hy.int
    obtain ⟨⟨h0, h1, h2⟩, p⟩ := p.gd
    refine .inr ⟨_, _, xs, rfl, rfl, a1, by omega, by omega, by rw [r1.length]; exact h2, fun q hq => ?_⟩
    exact p.laid ex hq (.lst upd_same ((r1.rep _).mono (Ex.new (ex.nn hq))))
  · exact p.elim
noncomputable def fdivD : D → D → Res D
  | .int i, .int j => if 0 < j then guard (j < 4611686018427387904) (.ok (.int (i / j))) else guard (j ≠ 0 ∧ j.natAbs < 1073741824) (.ok (.int (i.fdiv j)))
  | _, _ => .bad
def rFdivX : R2 := fun x y H Q => (rI CDivW (fun i j => .int (i / j))) x y H Q ∨ (rI CDivN (fun i j => .int (i.fdiv j))) x y H Q
theorem or_fdiv : OpR X (binaryOp .FloorDiv) rFdivX := op_fdivW.or op_fdivN
theorem os_fdiv : OpS c (mV c) rFdivX fdivD := by
  intro σ S H x y d e Q ex hx hy p
  unfold fdivD at p
  split at p
  · cases hx.int; cases hy.int
    split at p
    · rename_i h
      obtain ⟨h2, p⟩ := p.gd
      exact .inl ⟨_, _, rfl, rfl, wide_div (b := 62) h (by omega) (by decide) (by decide), p.here ex (.int _)⟩
    · obtain ⟨h, p⟩ := p.gd
      exact .inr ⟨_, _, rfl, rfl, h, p.here ex (.int _)⟩
  · exact p.elim
noncomputable def modD : D → D → Res D
  | .int i, .int j => guard (0 < j) (.ok (.int (i % j)))
  | _, _ => .bad
theorem os_mod : OpS c (mV c) (rI (fun _ j => 0 < j) fun i j => .int (i % j)) modD := by
  intro σ S H x y d e Q ex hx hy p
  unfold modD at p
  split at p
  · cases hx.int; cases hy.int
    obtain ⟨h, p⟩ := p.gd
    exact ⟨_, _, rfl, rfl, h, p.here ex (.int _)⟩
  · exact p.elim
def intsD (g : Int → Int → Int) : D → D → Res D
  | .int i, .int j => .ok (.int (g i j))
  | _, _ => .bad
def eqFlat : D → D → Option Bool
  | .int i, .int j => some (decide (i = j))
  | .str a, .str b => some (decide (a = b))
  | .bl a, .bl b => some (decide (a = b))
  | .non, .non => some true
  | .non, .int _ => some false
  | .non, .bl _ => some false
  | .non, .str _ => some false
  | .int _, .non => some false
  | .bl _, .non => some false
  | .str _, .non => some false
  | .int _, .str _ => some false
  | .str _, .int _ => some false
  | .bl _, .str _ => some false
  | .str _, .bl _ => some false
  | _, _ => none
def eqDeep (d e : D) : Res Bool := match toPy d, toPy e with
  | some p, some q => if SeqAt.shaped p = true ∧ SeqAt.shaped q = true then .ok (PyData.eqv p q) else .bad
  | _, _ => .bad
def eqB (d e : D) : Res Bool := match eqFlat d e with
  | some b => .ok b
  | none => eqDeep d e
def eqD (d e : D) : Res D := (eqB d e).bind fun b => .ok (.bl b)
def neD (d e : D) : Res D := (eqB d e).bind fun b => .ok (.bl (!b))
theorem of_eqDeep {σ : St} {S H : Hp} {x y : V} {d e : D} {g : Bool → Res D} {k : D → Hp → Hp → Prop} (ex : Ex S H) (hx : RpB c.K c.cm S H x d) (hy : RpB c.K c.cm S H y e) (p : PostG c σ S H ((eqDeep d e).bind g) k) :
    ∃ u v, Dp c.K H x u ∧ Dp c.K H y v ∧ SeqAt.shaped u = true ∧ SeqAt.shaped v = true ∧ PostG c σ S H (g (PyData.eqv u v)) k := by
  unfold eqDeep at p
  split at p
  · rename_i u v h1 h2
    by_cases hs : SeqAt.shaped u = true ∧ SeqAt.shaped v = true
    · rw [if_pos hs] at p
      exact ⟨u, v, hx.dp ex h1, hy.dp ex h2, hs.1, hs.2, p⟩
    · rw [if_neg hs] at p
      exact p.elim
  · exact p.elim
theorem of_eqFlat {S H : Hp} {x y : V} {d e : D} {b : Bool} (hx : RpB c.K c.cm S H x d) (hy : RpB c.K c.cm S H y e) (h : eqFlat d e = some b) : scal x y = true ∧ decide (x = y) = b := by
  unfold eqFlat at h
  split at h
  · cases hx.int; cases hy.int; cases h; exact ⟨rfl, by simp⟩
  · cases hx.str; cases hy.str; cases h; exact ⟨rfl, by simp⟩
  · cases hx.bl; cases hy.bl; cases h; exact ⟨rfl, by simp⟩
  · cases hx.non; cases hy.non; cases h; exact ⟨rfl, rfl⟩
  · cases hx.non; cases hy.int; cases h; exact ⟨rfl, rfl⟩
  · cases hx.non; cases hy.bl; cases h; exact ⟨rfl, rfl⟩
  · cases hx.non; cases hy.str; cases h; exact ⟨rfl, rfl⟩
  · cases hx.int; cases hy.non; cases h; exact ⟨rfl, rfl⟩
  · cases hx.bl; cases hy.non; cases h; exact ⟨rfl, rfl⟩
  · cases hx.str; cases hy.non; cases h; exact ⟨rfl, rfl⟩
  · cases hx.int; cases hy.str; cases h; exact ⟨rfl, rfl⟩
  · cases hx.str; cases hy.int; cases h; exact ⟨rfl, rfl⟩
  · cases hx.bl; cases hy.str; cases h; exact ⟨rfl, rfl⟩
  · cases hx.str; cases hy.bl; cases h; exact ⟨rfl, rfl⟩
  · cases h
def rEqX (K : PySem.W.Frag) : R2 := fun x y H Q => rEq x y H Q ∨ rEqD K x y H Q
def rNeX (K : PySem.W.Frag) : R2 := fun x y H Q => rNe x y H Q ∨ rNeD K x y H Q
theorem or_eq (hu : X.A.units + 64 < cLine) : OpR X (compareOp .Eq) (rEqX X.K) := op_eq.or (op_eqD hu)
theorem or_ne (hu : X.A.units + 64 < cLine) : OpR X (compareOp .NotEq) (rNeX X.K) := op_ne.or (op_neD hu)
theorem os_eq : OpS c (mV c) (rEqX c.K) eqD := by
  intro σ S H x y d e Q ex hx hy p
  unfold eqD eqB at p
  split at p
  · rename_i b hb
    obtain ⟨h1, h2⟩ := of_eqFlat hx hy hb
    refine .inl ⟨h1, ?_⟩
    rw [h2]; exact p.here ex (.bl _)
  · obtain ⟨u, v, h1, h2, h3, h4, p⟩ := of_eqDeep ex hx hy p
    exact .inr ⟨u, v, h1, h2, h3, h4, p.here ex (.bl _)⟩
theorem os_ne : OpS c (mV c) (rNeX c.K) neD := by
  intro σ S H x y d e Q ex hx hy p
  unfold neD eqB at p
  split at p
  · rename_i b hb
    obtain ⟨h1, h2⟩ := of_eqFlat hx hy hb
    refine .inl ⟨h1, ?_⟩
    rw [h2]; exact p.here ex (.bl _)
  · obtain ⟨u, v, h1, h2, h3, h4, p⟩ := of_eqDeep ex hx hy p
    exact .inr ⟨u, v, h1, h2, h3, h4, p.here ex (.bl _)⟩
/-- by ints, by texts -/
def ordD (g : Int → Int → Bool) (h : Str → Str → Bool) : D → D → Res D
  | .int i, .int j => .ok (.bl (g i j))
  | .str a, .str b => .ok (.bl (h a b))
  | _, _ => .bad
def rOrd (g : Int → Int → Bool) (h : Str → Str → Bool) : R2 := fun x y H Q => (rI0 fun i j => .bl (g i j)) x y H Q ∨ ∃ i j, x = .str i ∧ y = .str j ∧ Q (.bl (h i j)) H
theorem os_ord {g : Int → Int → Bool} {h : Str → Str → Bool} : OpS c (mV c) (rOrd g h) (ordD g h) := by
  intro σ S H x y d e Q ex hx hy p
  unfold ordD at p
  split at p
  · cases hx.int; cases hy.int
    exact .inl ⟨_, _, rfl, rfl, p.here ex (.bl _)⟩
  · cases hx.str; cases hy.str
    exact .inr ⟨_, _, rfl, rfl, p.here ex (.bl _)⟩
  · exact p.elim
abbrev ltD : D → D → Res D := ordD (fun i j => decide (i < j)) fun i j => decide (i.cps.toList < j.cps.toList)
abbrev leD : D → D → Res D := ordD (fun i j => decide (i ≤ j)) fun i j => !decide (j.cps.toList < i.cps.toList)
abbrev gtD : D → D → Res D := ordD (fun i j => decide (j < i)) fun i j => decide (j.cps.toList < i.cps.toList)
abbrev geD : D → D → Res D := ordD (fun i j => decide (j ≤ i)) fun i j => !decide (i.cps.toList < j.cps.toList)
theorem or_lt : OpR X (compareOp .Lt) (rOrd (fun i j => decide (i < j)) fun i j => decide (i.cps.toList < j.cps.toList)) := op_lt.or op_lt_str
theorem or_le : OpR X (compareOp .LtE) (rOrd (fun i j => decide (i ≤ j)) fun i j => !decide (j.cps.toList < i.cps.toList)) := op_le.or op_le_str
theorem or_gt : OpR X (compareOp .Gt) (rOrd (fun i j => decide (j < i)) fun i j => decide (j.cps.toList < i.cps.toList)) := op_gt.or op_gt_str
/-- is None, is not None -/
def isN : D → Bool
  | .non => true
  | _ => false
def isD (neg : Bool) (d e : D) : Res D := if isN e = true then .ok (.bl (if neg then !isN d else isN d)) else .bad
theorem RpB.isN {K : PySem.W.Frag} {cm : CM} {S H : Hp} {v : V} {d : D} (h : RpB K cm S H v d) : decide (v = .non) = isN d := by
  rcases h with h | ⟨p, ho, rfl, h2, h3⟩
  · cases h <;> rfl
  · cases h3 <;> rfl
theorem os_isnot : OpS c (mV c) (fun x y H Q => y = .non ∧ Q (.bl (!decide (x = .non))) H) (isD true) := by
  intro σ S H x y d e Q ex hx hy p
  obtain ⟨h, p⟩ := p.ite
  rw [hx.isN]
  refine ⟨of_decide_eq_true (hy.isN.trans h), p.here ex (.bl _)⟩
/-- x in: a list of data, a text in a text, a flat thing in a tuple of flat things -/
def flatD : D → Option V
  | .non => some .non
  | .bl b => some (.bl b)
  | .int i => some (.int i)
  | .str s => some (.str s)
  | _ => none
def flatDs : List D → Option (List V)
  | [] => some []
  | d :: ds => match flatD d, flatDs ds with
    | some v, some vs => some (v :: vs)
    | _, _ => none
def inDeep (d : D) (ds : List D) : Res Bool := match toPy d, toPyL ds with
  | some p, some ps => if SeqAt.shaped p = true ∧ SeqAt.shaped (.list ps) = true then .ok (ps.any fun z => PyData.eqv z p) else .bad
  | _, _ => .bad
def inFlat (d : D) (ds : List D) : Option Bool := match flatD d, flatDs ds with
  | some v, some vs => some (inV v vs)
  | _, _ => none
def inLst (d : D) (ds : List D) : Res Bool := match inFlat d ds with
  | some b => .ok b
  | none => inDeep d ds
def inTup (d : D) (ds : List D) : Res Bool := match inFlat d ds with
  | some b => .ok b
  | none => .bad
def inStr (a b : Str) : Bool := match a.cps.toList with
  | [n] => decide (n ∈ b.cps.toList)
  | _ => !(Builtin.Str.occurrences b a 0 b.length 1).isEmpty
def inB : D → D → Res Bool
  | d, .lst ds => inLst d ds
  | d, .fz ds => inLst d ds
  | d, .tup ds => inTup d ds
  | .str a, .str b => .ok (inStr a b)
  | _, _ => .bad
def inD (d e : D) : Res D := (inB d e).bind fun b => .ok (.bl b)
def ninD (d e : D) : Res D := (inB d e).bind fun b => .ok (.bl (!b))
theorem RpB.flat {K : PySem.W.Frag} {cm : CM} {S H : Hp} {v u : V} {d : D} (h : RpB K cm S H v d) (q : flatD d = some u) : v = u ∧ flatV u = true := by
  rcases h with h | ⟨p, ho, rfl, h2, h3⟩
  · cases h <;> first | (cases q; exact ⟨rfl, rfl⟩) | cases q
  · cases h3 <;> cases q
theorem RpA.flat {K : PySem.W.Frag} {cm : CM} {S : Hp} : ∀ {vs us : List V} {ds : List D}, RpA K cm S vs ds → flatDs ds = some us → vs = us ∧ us.all flatV = true
  | _, _, [], h, q => by cases h; cases q; exact ⟨rfl, rfl⟩
  | _, _, d :: ds, h, q => by
    cases h with | cons a r =>
    rw [flatDs] at q
    cases h1 : flatD d with
    | none => rw [h1] at q; cases q
    | some u =>
      cases h2 : flatDs ds with
      | none => rw [h1, h2] at q; cases q
      | some us =>
        rw [h1, h2] at q
        cases q
        obtain ⟨rfl, z1⟩ := RpB.flat (H := S) (.inl a) h1
        obtain ⟨rfl, z2⟩ := RpA.flat r h2
        exact ⟨rfl, by simp [z1, z2]⟩
def rInX (K : PySem.W.Frag) (neg : Bool) : R2 := fun x y H Q => (∃ d ds, Dp K H x d ∧ Dp K H y (.list ds) ∧ SeqAt.shaped d = true ∧ SeqAt.shaped (.list ds) = true ∧ Q (.bl (if neg then !ds.any fun z => PyData.eqv z d else ds.any fun z => PyData.eqv z d)) H) ∨
  rIn K neg x y H Q ∨ (∃ i j, x = .str i ∧ y = .str j ∧ Q (.bl (if neg then !(!(Builtin.Str.occurrences j i 0 j.length 1).isEmpty) else !(Builtin.Str.occurrences j i 0 j.length 1).isEmpty)) H) ∨
  ∃ (n : Nat) (z : Str), x = .str ⟨#[n]⟩ ∧ y = .str z ∧ Q (.bl (if neg then !decide (n ∈ z.cps.toList) else decide (n ∈ z.cps.toList))) H
theorem or_in (hu : X.A.units + 65 < cLine) : OpR X (compareOp .In) (rInX X.K false) := (op_inD hu).or (op_in_seq.or (op_in_str.or op_in_sign))
theorem or_nin (hu : X.A.units + 65 < cLine) : OpR X (compareOp .NotIn) (rInX X.K true) := (op_notInD hu).or (op_notIn_seq.or (op_notIn_str.or op_notIn_sign))
theorem of_inFlat {S H : Hp} {x : V} {d : D} {xs : List V} {ds : List D} {b : Bool} (hx : RpB c.K c.cm S H x d) (r1 : RpA c.K c.cm S xs ds) (h : inFlat d ds = some b) : flatV x = true ∧ xs.all flatV = true ∧ inV x xs = b := by
  unfold inFlat at h
  split at h
  · rename_i v vs h1 h2
    obtain ⟨rfl, z1⟩ := hx.flat h1
    obtain ⟨rfl, z2⟩ := r1.flat h2
    cases h
    exact ⟨z1, z2, rfl⟩
  · cases h
theorem of_inLst {σ : St} {S H : Hp} {x y : V} {d : D} {ds : List D} {neg : Bool} {Q : VK} {q : Addr} {xs : List V} (ex : Ex S H) (hx : RpB c.K c.cm S H x d) (hy : y = .ref q) (a1 : SqL c.K H q xs) (r1 : RpA c.K c.cm S xs ds) (hd : ∀ ps, toPyL ds = some ps → Dp c.K H y (.list ps))
    (p : PostG c σ S H ((inLst d ds).bind fun b => .ok (.bl (if neg then !b else b))) fun a S' H' => ∀ b, mV c H S' H' b a → Q b H') : rInX c.K neg x y H Q := by
  unfold inLst at p
  split at p
  · rename_i b hb
    obtain ⟨z1, z2, z3⟩ := of_inFlat hx r1 hb
    refine .inr (.inl ⟨q, xs, hy, .inl a1, z1, z2, ?_⟩)
    rw [z3]; exact p.here ex (.bl _)
  · unfold inDeep at p
    split at p
    · rename_i p' ps h1 h2
      by_cases hs : SeqAt.shaped p' = true ∧ SeqAt.shaped (.list ps) = true
      · rw [if_pos hs] at p
        exact .inl ⟨p', ps, hx.dp ex h1, hd ps h2, hs.1, hs.2, p.here ex (.bl _)⟩
      · rw [if_neg hs] at p; exact p.elim
    · exact p.elim
theorem of_inB {σ : St} {S H : Hp} {x y : V} {d e : D} {neg : Bool} {Q : VK} (ex : Ex S H) (hx : RpB c.K c.cm S H x d) (hy : RpB c.K c.cm S H y e)
    (p : PostG c σ S H ((inB d e).bind fun b => .ok (.bl (if neg then !b else b))) fun a S' H' => ∀ b, mV c H S' H' b a → Q b H') : rInX c.K neg x y H Q := by
  unfold inB at p
  split at p
  · obtain ⟨q, xs, hq, a1, r1⟩ := hy.list ex
    exact of_inLst ex hx hq (.inl (.inl a1)) r1 (fun ps h => hy.dp ex (by rw [toPy, h]; rfl)) p
  · obtain ⟨q, xs, hq, a1, r1⟩ := hy.fz ex
    exact of_inLst ex hx hq a1 r1 (fun ps h => hy.dp ex (by rw [toPy, h]; rfl)) p
  · unfold inTup at p
    split at p
    · rename_i b hb
      obtain ⟨q, xs, rfl, a1, r1, s1⟩ := hy.tup ex
      obtain ⟨z1, z2, z3⟩ := of_inFlat hx r1 hb
      refine .inr (.inl ⟨q, xs, rfl, .inr a1, z1, z2, ?_⟩)
      rw [z3]; exact p.here ex (.bl _)
    · exact p.elim
  · rename_i a b
    cases hx.str; cases hy.str
    unfold inStr at p
    split at p
    · rename_i n hn
      have ha : a = ⟨#[n]⟩ := Str.ext' (Array.toList_inj.mp (by rw [hn]))
      exact .inr (.inr (.inr ⟨n, b, by rw [ha], rfl, p.here ex (.bl _)⟩))
    · exact .inr (.inr (.inl ⟨_, _, rfl, rfl, p.here ex (.bl _)⟩))
  · exact p.elim
theorem os_in : OpS c (mV c) (rInX c.K false) inD := fun σ S H x y d e Q ex hx hy p => of_inB (neg := false) ex hx hy p
theorem os_nin : OpS c (mV c) (rInX c.K true) ninD := fun σ S H x y d e Q ex hx hy p => of_inB (neg := true) ex hx hy p
end
end Dx
end S_DxC
section S_DxD
set_option Elab.async false
set_option linter.all false
set_option maxRecDepth 100000
set_option maxHeartbeats 2000000
namespace Dx
open PySem L2
section
variable {X : Cx} {c : Cf} {G : List Ow} {f f1 f2 f3 : Rho → Res D} {a b e : Expr} {es : List Expr} {pos p : Pos} {fs : Rho → Res (List D)}
def dChain (g g' : D → D → Res D) (f1 f2 f3 : Rho → Res D) : Rho → Res D := fun r => (f1 r).bind fun x => (f2 r).bind fun y => (g x y).bind fun z => (asB z).bind fun k => if k = true then (f3 r).bind fun w => g' y w else .ok (.bl false)
theorem chain_rd {r2 r2' : R2} {g g' : D → D → Res D} (hs : OpS c (mV c) r2 g) (hs' : OpS c (mV c) r2' g') : ∀ σ H Q, tV c G (dChain g g' f1 f2 f3) σ H Q → tChain r2 r2' (tR c G f1) (tR c G f2) (tR c G f3) σ H Q := fun σ H Q ⟨S0, H0, S, r, ok, p⟩ =>
  rd_seq ok p fun x v S1 H1 w1 o1 m1 p1 => rd_seq o1 p1 fun y u S2 H2 w2 o2 m2 p2 => hs σ S2 H2 v u x y _ o2.ex (RpB.mono m1 w2.s w2.h) m2 (p2.unbind.imp fun z S3 H3 w3 p3 bz hz => by
    obtain ⟨k, rfl, q3⟩ := of_asB (PostG.imp p3.unbind fun _ _ _ _ h => h)
    cases hz
    refine ⟨k, rfl, ?_⟩
    have o3 := o2.go w3
    have p4 := q3.go o3.ex
    cases k with
    | true => exact rd_seq o3 p4 fun w u' S4 H4 w4 o4 m4 p5 => hs' σ S4 H4 u u' y w Q o4.ex (RpB.mono m2 (w3.s.trans w4.s) (w3.h.trans w4.h)) m4 p5
    | false => exact p4.go o3.ex _ (.bl _))
theorem dt_chain {op op' : CmpOp} {r2 r2' : R2} {g g' : D → D → Res D} {e3 : Expr} (ho : OpR X (compareOp op) r2) (hs : OpS c (mV c) r2 g) (ho' : OpR X (compareOp op') r2') (hs' : OpS c (mV c) r2' g') (ha : PE X a (tR c G f1)) (hb : PE X b (tR c G f2)) (hc : PE X e3 (tR c G f3))
    (hm : lastMarks [op, op'] [b, e3] = false := by with_unfolding_all rfl) : PT X (.Compare a [op, op'] [b, e3] pos) (tT c G (dT (dChain g g' f1 f2 f3))) := pt_imp (pt_chain ho ho' ha hb hc hm) fun σ H Q ⟨S0, H0, S, r, ok, p⟩ => by
  refine chain_rd (G := G) hs hs' σ H _ (rd_seq ok p fun d v S1 H1 w1 o1 m1 p1 => ?_)
  obtain ⟨b, rfl, p1⟩ := of_asB p1
  cases m1
  exact ⟨b, rfl, p1.go o1.ex _ rfl⟩
def negD : D → Res D
  | .int i => .ok (.int (-i))
  | _ => .bad
def dUn (g : D → Res D) (f : Rho → Res D) : Rho → Res D := fun r => (f r).bind g
theorem de_neg (ha : PE X a (tV c G f)) : PE X (.UnaryOp .USub a pos) (tV c G (dUn negD f)) := pe_imp (pe_un un_neg ha) fun σ H Q ⟨S0, H0, S, r, ok, p⟩ => rd_seq ok p fun d v S1 H1 w1 o1 m1 p1 => by
  cases d with
  | int i => cases m1; exact ⟨i, rfl, p1.go o1.ex _ (.int _)⟩
  | _ => exact p1.elim
theorem de_one {op : BoolOp} (h : PE X a (tV c G f)) : PE X (.BoolOp op [a] pos) (tV c G f) := pe_one h
theorem de_and {rest : List Expr} (ha : PE X a (tV c G f1)) (hb : PE X (.BoolOp .And (b :: rest) pos) (tV c G f2)) : PE X (.BoolOp .And (a :: b :: rest) pos) (tV c G (dAndV f1 f2)) := pe_imp (pe_and ha hb) fun σ H Q ⟨S0, H0, S, r, ok, p⟩ =>
  rd_seq ok p fun d v S1 H1 w1 o1 m1 p1 => by
    obtain ⟨k, rfl, q1⟩ := of_asB (p1.unbind)
    cases m1
    refine ⟨k, rfl, ?_⟩
    have p2 := q1.go o1.ex
    cases k with
    | true => exact ⟨S0, H0, S1, r, o1, p2⟩
    | false => exact p2.go o1.ex _ (.bl _)
theorem de_or {rest : List Expr} (ha : PE X a (tV c G f1)) (hb : PE X (.BoolOp .Or (b :: rest) pos) (tV c G f2)) : PE X (.BoolOp .Or (a :: b :: rest) pos) (tV c G (dOrV f1 f2)) := pe_imp (pe_or ha hb) fun σ H Q ⟨S0, H0, S, r, ok, p⟩ =>
  rd_seq ok p fun d v S1 H1 w1 o1 m1 p1 => by
    obtain ⟨k, rfl, q1⟩ := of_asB (p1.unbind)
    cases m1
    refine ⟨k, rfl, ?_⟩
    have p2 := q1.go o1.ex
    cases k with
    | true => exact p2.go o1.ex _ (.bl _)
    | false => exact ⟨S0, H0, S1, r, o1, p2⟩
def dNil : Rho → Res (List D) := fun _ => .ok []
def dCons (f : Rho → Res D) (g : Rho → Res (List D)) : Rho → Res (List D) := fun r => (f r).bind fun x => (g r).bind fun xs => .ok (x :: xs)
/-- with a mode for each: true, a thing that is only read -/
def RpM (c : Cf) (S H : Hp) : List Bool → List V → List D → Prop
  | [], [], [] => True
  | true :: ms, v :: vs, d :: ds => RpB c.K c.cm S H v d ∧ RpM c S H ms vs ds
  | false :: ms, v :: vs, d :: ds => Rp c.K c.cm S v d ∧ RpM c S H ms vs ds
  | _, _, _ => False
theorem RpM.mono {S H S' H' : Hp} (e : Ex S S') (e' : Ex H H') : ∀ {ms : List Bool} {vs : List V} {ds : List D}, RpM c S H ms vs ds → RpM c S' H' ms vs ds
  | [], [], [], _ => trivial
  | true :: ms, v :: vs, d :: ds, h => ⟨h.1.mono e e', RpM.mono e e' h.2⟩
  | false :: ms, v :: vs, d :: ds, h => ⟨h.1.mono e, RpM.mono e e' h.2⟩
  | [], _ :: _, _, h => h.elim
  | [], [], _ :: _, h => h.elim
  | true :: _, [], _, h => h.elim
  | true :: _, _ :: _, [], h => h.elim
  | false :: _, [], _, h => h.elim
  | false :: _, _ :: _, [], h => h.elim
def mM (c : Cf) (ms : List Bool) : Md (List V) (List D) := fun _ S' H' vs ds => RpM c S' H' ms vs ds
instance {ms : List Bool} : Anti (mM c ms) := ⟨fun _ h => h⟩
abbrev tM (c : Cf) (G : List Ow) (ms : List Bool) (f : Rho → Res (List D)) : TA := rd c G f (mM c ms)
theorem dm_nil : PA X [] (tM c G [] dNil) := pa_imp pa_nil fun σ H Q ⟨S0, H0, S, r, ok, p⟩ => p.go ok.ex _ trivial
theorem dm_bor {ms : List Bool} (ha : PE X e (tR c G f)) (hr : PA X es (tM c G ms fs)) (hs : starEach (e :: es) X.env = (false, eval e X.env) :: starEach es X.env := by rfl) : PA X (e :: es) (tM c G (true :: ms) (dCons f fs)) :=
  pa_imp (pa_cons ha hr hs) fun σ H Q ⟨S0, H0, S, r, ok, p⟩ => rd_seq ok p fun x v S1 H1 w1 o1 m1 p1 => rd_seq o1 p1 fun xs vs S2 H2 w2 o2 m2 p2 => p2.go o2.ex _ ⟨RpB.mono m1 w2.s w2.h, m2⟩
theorem dm_val {ms : List Bool} (ha : PE X e (tV c G f)) (hr : PA X es (tM c G ms fs)) (hs : starEach (e :: es) X.env = (false, eval e X.env) :: starEach es X.env := by rfl) : PA X (e :: es) (tM c G (false :: ms) (dCons f fs)) :=
  pa_imp (pa_cons ha hr hs) fun σ H Q ⟨S0, H0, S, r, ok, p⟩ => rd_seq ok p fun x v S1 H1 w1 o1 m1 p1 => rd_seq o1 p1 fun xs vs S2 H2 w2 o2 m2 p2 => p2.go o2.ex _ ⟨Rp.mono w2.s m1, m2⟩
theorem da_nil : PA X [] (tAs c G dNil) := pa_imp pa_nil fun σ H Q ⟨S0, H0, S, r, ok, p⟩ => p.go ok.ex _ .nil
theorem da_cons (ha : PE X e (tV c G f)) (hr : PA X es (tAs c G fs)) (hs : starEach (e :: es) X.env = (false, eval e X.env) :: starEach es X.env := by rfl) : PA X (e :: es) (tAs c G (dCons f fs)) :=
  pa_imp (pa_cons ha hr hs) fun σ H Q ⟨S0, H0, S, r, ok, p⟩ => rd_seq ok p fun x v S1 H1 w1 o1 m1 p1 => rd_seq o1 p1 fun xs vs S2 H2 w2 o2 m2 p2 => p2.go o2.ex _ (.cons (Rp.mono w2.s m1) m2)
noncomputable def mkTup (ds : List D) : Res D := guard (ds.length ≤ sizeLine) (.ok (.tup ds))
noncomputable def mkLst (ds : List D) : Res D := guard (ds.length ≤ sizeLine) (.ok (.lst ds))
noncomputable def dTup (g : Rho → Res (List D)) : Rho → Res D := fun r => (g r).bind mkTup
noncomputable def dLst (g : Rho → Res (List D)) : Rho → Res D := fun r => (g r).bind mkLst
theorem de_tup {k : Nat} (h : PA X es (tAs c G fs)) : PE X (.Tuple es k pos) (tV c G (dTup fs)) := pe_imp (pe_tup h) fun σ H Q ⟨S0, H0, S, r, ok, p⟩ => rd_seq ok p fun ds vs S1 H1 w1 o1 m1 p1 => by
  obtain ⟨hl, p1⟩ := p1.gd
  exact ⟨by rw [RpA.length m1]; exact hl, fun q hq => p1.laid o1.ex hq (.tup upd_same (RpA.mono (Ex.new (o1.ex.nn hq)) m1))⟩
theorem de_lst (h : PA X es (tAs c G fs)) : PE X (.List es pos) (tO c G (dLst fs)) := pe_imp (pe_lst h) fun σ H Q ⟨S0, H0, S, r, ok, p⟩ => rd_seq ok p fun ds vs S1 H1 w1 o1 m1 p1 => by
  obtain ⟨hl, p1⟩ := p1.gd
  exact ⟨by rw [RpA.length m1]; exact hl, fun q hq => (p1.anti w1.h).kept o1.ex hq (.lst m1)⟩
def CallS (c : Cf) (R : Md V D) (r : List V → Hp → VK → Prop) (ms : List Bool) (g : List D → Res D) : Prop := ∀ (σ : St) (S H : Hp) (vs : List V) (ds : List D) (Q : VK), Ex S H → RpM c S H ms vs ds →
  PostG c σ S H (g ds) (fun a S' H' => ∀ b, R H S' H' b a → Q b H') → r vs H Q
def dCall (g : List D → Res D) (fs : Rho → Res (List D)) : Rho → Res D := fun r => (fs r).bind g
theorem de_bltn {R : Md V D} [Anti R] {x : Str} {id : String} {ms : List Bool} {r : List V → Hp → VK → Prop} {g : List D → Res D} (hc : CallR X (.builtin id) r) (hs : CallS c R r ms g) (hg : Gl X x) (hm : X.mg x = none) (hv : bootBuiltins x = some (.builtin id)) (ha : PA X (e :: es) (tM c G ms fs))
    (hn : x ≠ "__name__" := by decide) (hdb : (x == ("__debug__" : Str)) = false := by decide) (he : starEach (e :: es) X.env = (false, eval e X.env) :: starEach es X.env := by rfl) (hpl : (backTo pos (starEach es X.env)).any (·.1) = false := by rfl) :
    PE X (.Call (.Name x p) (e :: es) [] pos) (rd c G (dCall g fs) R) := pe_imp (pe_callB hc hg hm hv ha hn hdb he hpl) fun σ H Q ⟨S0, H0, S, r, ok, p⟩ => rd_seq ok p fun ds vs S1 H1 w1 o1 m1 p1 => hs σ S1 H1 vs ds Q o1.ex m1 (p1.anti w1.h)
theorem de_type {R : Md V D} [Anti R] {x : Str} {T : String} {ms : List Bool} {r : List V → Hp → VK → Prop} {g : List D → Res D} (hc : CallR X (.type T) r) (hs : CallS c R r ms g) (hg : Gl X x) (hm : X.mg x = none) (hv : bootBuiltins x = some (.type T)) (ha : PA X (e :: es) (tM c G ms fs))
    (hn : x ≠ "__name__" := by decide) (hdb : (x == ("__debug__" : Str)) = false := by decide) (he : starEach (e :: es) X.env = (false, eval e X.env) :: starEach es X.env := by rfl) (hpl : (backTo pos (starEach es X.env)).any (·.1) = false := by rfl) :
    PE X (.Call (.Name x p) (e :: es) [] pos) (rd c G (dCall g fs) R) := pe_imp (pe_callTy hc hg hm hv ha hn hdb he hpl) fun σ H Q ⟨S0, H0, S, r, ok, p⟩ => rd_seq ok p fun ds vs S1 H1 w1 o1 m1 p1 => hs σ S1 H1 vs ds Q o1.ex m1 (p1.anti w1.h)
theorem RpM.one {S H : Hp} {vs : List V} {ds : List D} (h : RpM c S H [true] vs ds) : ∃ v d, vs = [v] ∧ ds = [d] ∧ RpB c.K c.cm S H v d := by
  match vs, ds, h with
  | [v], [d], h => exact ⟨v, d, rfl, rfl, h.1⟩
  | _ :: _ :: _, [_], h => exact h.2.elim
  | [_], _ :: _ :: _, h => exact h.2.elim
  | _ :: _ :: _, _ :: _ :: _, h => exact h.2.elim
  | [], _, h => exact h.elim
  | _ :: _, [], h => exact h.elim
theorem RpM.two {S H : Hp} {vs : List V} {ds : List D} (h : RpM c S H [true, true] vs ds) : ∃ v w d e, vs = [v, w] ∧ ds = [d, e] ∧ RpB c.K c.cm S H v d ∧ RpB c.K c.cm S H w e := by
  match vs, ds, h with
  | v :: vs, d :: ds, h =>
    obtain ⟨w, e, rfl, rfl, h2⟩ := RpM.one h.2
    exact ⟨v, w, d, e, rfl, rfl, h.1, h2⟩
  | [], _, h => exact h.elim
  | _ :: _, [], h => exact h.elim
/-- len -/
noncomputable def lenD : D → Res D
  | .str z => guard (z.length ≤ sizeLine) (.ok (.int z.length))
  | .lst ds => .ok (.int ds.length)
  | .fz ds => .ok (.int ds.length)
  | .tup ds => .ok (.int ds.length)
  | .kt ds => .ok (.int ds.length)
  | _ => .bad
def g1 (g : D → Res D) : List D → Res D
  | [d] => g d
  | _ => .bad
def g2 (g : D → D → Res D) : List D → Res D
  | [d, e] => g d e
  | _ => .bad
theorem cs_len : CallS c (mV c) (fun xs H Q => ∃ x n, xs = [x] ∧ LenV c.K x H n ∧ Q (.int n) H) [true] (g1 lenD) := by
  intro σ S H vs ds Q ex m p
  obtain ⟨v, d, rfl, rfl, h⟩ := m.one
  cases d with
  | str z =>
    obtain ⟨hl, p⟩ := p.gd
    cases h.str
    exact ⟨_, _, rfl, ⟨hl, rfl⟩, p.here ex (.int _)⟩
  | lst ds =>
    obtain ⟨q, xs, rfl, a1, r1⟩ := h.list ex
    exact ⟨_, _, rfl, .inl ⟨xs, .inl (.inl a1), r1.length.symm⟩, p.here ex (.int _)⟩
  | fz ds =>
    obtain ⟨q, xs, rfl, a1, r1⟩ := h.fz ex
    exact ⟨_, _, rfl, .inl ⟨xs, a1, r1.length.symm⟩, p.here ex (.int _)⟩
  | tup ds =>
    obtain ⟨q, xs, rfl, a1, r1, s1⟩ := h.tup ex
    exact ⟨_, _, rfl, .inr ⟨xs, a1, r1.length.symm⟩, p.here ex (.int _)⟩
  | kt ds =>
    obtain ⟨q, xs, rfl, a1, r1, s1⟩ := h.kt ex
    exact ⟨_, _, rfl, .inr ⟨xs, a1, r1.length.symm⟩, p.here ex (.int _)⟩
  | _ => exact p.elim
/-- int(..) -/
noncomputable def intD : D → Res D
  | .int i => .ok (.int i)
  | .bl k => .ok (.int (if k then 1 else 0))
  | .str a => match PySem.intText? a with
    | some n => guard (a.length ≤ 640) (.ok (.int n))
    | none => .bad
  | _ => .bad
def rIntX : List V → Hp → VK → Prop := fun xs H Q => ((∃ i, xs = [.int i] ∧ Q (.int i) H) ∨ ∃ k, xs = [.bl k] ∧ Q (.int (if k then 1 else 0)) H) ∨ ∃ a n, xs = [.str a] ∧ PySem.intText? a = some n ∧ a.length ≤ 640 ∧ Q (.int n) H
theorem cr_int : CallR X (.type "int") rIntX := call_int1.or call_int_str
theorem cs_int : CallS c (mV c) rIntX [true] (g1 intD) := by
  intro σ S H vs ds Q ex m p
  obtain ⟨v, d, rfl, rfl, h⟩ := m.one
  cases d with
  | int i => cases h.int; exact .inl (.inl ⟨_, rfl, p.here ex (.int _)⟩)
  | bl k => cases h.bl; exact .inl (.inr ⟨_, rfl, p.here ex (.int _)⟩)
  | str a =>
    cases h.str
    unfold g1 intD at p
    dsimp only at p
    split at p
    · rename_i n hn
      obtain ⟨hl, p⟩ := p.gd
      exact .inr ⟨_, n, rfl, hn, hl, p.here ex (.int _)⟩
    · exact p.elim
  | _ => exact p.elim
def absD : D → Res D
  | .int i => .ok (.int (if i < 0 then -i else i))
  | _ => .bad
theorem cs_ints2 {g : Int → Int → Int} : CallS c (mV c) (fun xs H Q => ∃ i j, xs = [.int i, .int j] ∧ Q (.int (g i j)) H) [true, true] (g2 (intsD g)) := by
  intro σ S H vs ds Q ex m p
  obtain ⟨v, w, d, e, rfl, rfl, h, h'⟩ := m.two
  unfold g2 intsD at p
  dsimp only at p
  split at p
  · cases h.int; cases h'.int; exact ⟨_, _, rfl, p.here ex (.int _)⟩
  · exact p.elim
abbrev max2 (i j : Int) : Int := if j > i then j else i
/-- list(..), tuple(..) -/
def itemsL : D → Res (List D)
  | .lst ds => .ok ds
  | .fz ds => .ok ds
  | _ => .bad
def itemsT : D → Res (List D)
  | .tup ds => .ok ds
  | _ => .bad
def items : D → Res (List D)
  | .lst ds => .ok ds
  | .fz ds => .ok ds
  | .tup ds => .ok ds
  | _ => .bad
def listD (d : D) : Res D := match d with
  | .kt ds => .ok (.lst ds)
  | d => (items d).bind fun ds => .ok (.lst ds)
theorem cs_list : CallS c (mO c) (fun xs H Q => ∃ p ys, xs = [.ref p] ∧ (SqL c.K H p ys ∨ SqT c.K H p ys) ∧ ∀ l, H l = none → Q (.ref l) (upd H l (.lst ys))) [true] (g1 listD) := by
  intro σ S H vs ds Q ex m p
  obtain ⟨v, d, rfl, rfl, h⟩ := m.one
  cases d with
  | lst ds =>
    obtain ⟨q, xs, rfl, a1, r1⟩ := h.list ex
    exact ⟨q, xs, rfl, .inl (.inl (.inl a1)), fun l hl => p.kept ex hl (.lst r1)⟩
  | fz ds =>
    obtain ⟨q, xs, rfl, a1, r1⟩ := h.fz ex
    exact ⟨q, xs, rfl, .inl a1, fun l hl => p.kept ex hl (.lst r1)⟩
  | tup ds =>
    obtain ⟨q, xs, rfl, a1, r1, s1⟩ := h.tup ex
    exact ⟨q, xs, rfl, .inr a1, fun l hl => p.kept ex hl (.lst r1)⟩
  | kt ds =>
    obtain ⟨q, xs, rfl, a1, r1, s1⟩ := h.kt ex
    exact ⟨q, xs, rfl, .inr a1, fun l hl => p.kept ex hl (.lst r1)⟩
  | _ => exact p.elim
def tupleD (d : D) : Res D := (items d).bind fun ds => .ok (.tup ds)
theorem cs_tuple : CallS c (mV c) (fun xs H Q => ∃ p ys, xs = [.ref p] ∧ ((SqL c.K H p ys ∧ ∀ l, H l = none → Q (.ref l) (upd H l (.tup ys))) ∨ (SqT c.K H p ys ∧ Q (.ref p) H))) [true] (g1 tupleD) := by
  intro σ S H vs ds Q ex m p
  obtain ⟨v, d, rfl, rfl, h⟩ := m.one
  cases d with
  | lst ds =>
    obtain ⟨q, xs, rfl, a1, r1⟩ := h.list ex
    exact ⟨q, xs, rfl, .inl ⟨.inl (.inl a1), fun l hl => p.laid ex hl (.tup upd_same (r1.mono (Ex.new (ex.nn hl))))⟩⟩
  | fz ds =>
    obtain ⟨q, xs, rfl, a1, r1⟩ := h.fz ex
    exact ⟨q, xs, rfl, .inl ⟨a1, fun l hl => p.laid ex hl (.tup upd_same (r1.mono (Ex.new (ex.nn hl))))⟩⟩
  | tup ds =>
    obtain ⟨q, xs, rfl, a1, r1, s1⟩ := h.tup ex
    exact ⟨q, xs, rfl, .inr ⟨a1, p.here ex (.tup s1 r1)⟩⟩
  | _ => exact p.elim
/-- str(n), str(text) is not here: see part T -/
noncomputable def strD : D → Res D
  | .int i => guard (i.natAbs.log2 < 1920) (.ok (.str (toString i)))
  | _ => .bad
def tyN : D → Option String
  | .non => some "NoneType"
  | .bl _ => some "bool"
  | .int _ => some "int"
  | .str _ => some "str"
  | .lst _ => some "list"
  | .fz _ => some "list"
  | .tup _ => some "tuple"
  | .kt _ => some "tuple"
  | .dk _ _ => some "dict"
  | .dt _ _ => none
  | .dn _ _ => none
  | .obj _ _ _ => none
  | .own _ => none
  | .st _ _ => none
def isiD (T : String) (d : D) : Res D := match tyN d with
  | some n => match kitB n T with
    | some b => .ok (.bl b)
    | none => .bad
  | none => .bad
theorem RpB.ty {K : PySem.W.Frag} {cm : CM} {S H : Hp} {v : V} {d : D} {n : String} (h : RpB K cm S H v d) (ex : Ex S H) (q : tyN d = some n) : TyX K H v (.type n) := by
  cases d with
  | non => cases h.non; cases q; exact .base .non
  | bl b => cases h.bl; cases q; exact .base (.bl b)
  | int i => cases h.int; cases q; exact .base (.int i)
  | str s => cases h.str; cases q; exact .base (.str s)
  | lst ds => obtain ⟨p, xs, rfl, a, r⟩ := h.list ex; cases q; exact .base (.lst a)
  | fz ds =>
    obtain ⟨p, xs, rfl, a, r⟩ := h.fz ex; cases q
    rcases a with (a | ⟨o, a⟩) | ⟨o, its, m, a1, a2, _⟩
    · exact .base (.lst a)
    · exact .base (.frz a)
    · exact .kList a1 a2
  | tup ds =>
    obtain ⟨p, xs, rfl, a, r, s⟩ := h.tup ex; cases q
    rcases a with (a | ⟨o, a⟩) | ⟨o, its, m, a1, a2, _⟩
    · exact .base (.tup a)
    · exact .fTuple a
    · exact .kTuple a1 a2
  | dk ks vs =>
    obtain ⟨p, xs, rfl, a, r⟩ := h.dk ex; cases q
    rcases a with a | ⟨o, a⟩
    · exact .base (.dK a)
    · exact .fDict a
  | dt ks vs => cases q
  | dn ks vs => cases q
  | kt ds =>
    obtain ⟨p, xs, rfl, a, r, s⟩ := h.kt ex; cases q
    rcases a with (a | ⟨o, a⟩) | ⟨o, its, m, a1, a2, _⟩
    · exact .base (.tup a)
    · exact .fTuple a
    · exact .kTuple a1 a2
  | obj n ns vs => cases q
  | own k => cases q
  | st k M => cases q
/-- the class's name is a built-in's that stands as it was -/
theorem de_isi {x : Str} {pT : Pos} (T : String) (hm : X.mg "isinstance" = none) (hg : Gl X "isinstance") (gT : Gl X x) (mT : X.mg x = none) (bT : bootBuiltins x = some (.type T)) (ha : PE X e (tR c G f)) (hK : c.K = X.K := by rfl)
    (hn : x ≠ "__name__" := by decide) (hd : (x == ("__debug__" : Str)) = false := by decide)
    (hs1 : starEach [e, .Name x pT] X.env = (false, eval e X.env) :: starEach [.Name x pT] X.env := by rfl) (hs2 : starEach [.Name x pT] X.env = (false, eval (.Name x pT) X.env) :: starEach [] X.env := by rfl) (hpl : (backTo pos (starEach [.Name x pT] X.env)).any (·.1) = false := by rfl) :
    PE X (.Call (.Name "isinstance" p) [e, .Name x pT] [] pos) (tV c G (dUn (isiD T) f)) := by
  have hT : PE X (.Name x pT) (tC (.ty T)) := pe_bltn gT mT bT rfl hn hd
  refine pe_imp (pe_callB call_isi hg hm (by decide +kernel) (pa_cons ha (pa_cons hT pa_nil hs2) hs1) (he := hs1) (hpl := hpl)) fun σ H Q ⟨S0, H0, S, r, ok, p⟩ => rd_seq ok p fun d v S1 H1 w1 o1 m1 p1 => ?_
  unfold isiD at p1
  split at p1
  · rename_i n hn
    split at p1
    · rename_i b hb
      exact ⟨v, .ty T, .type n, .type T, b, rfl, .ty T, by rw [← hK]; exact RpB.ty m1 o1.ex hn, kit_ty hb, p1.go o1.ex _ (.bl _)⟩
    · exact p1.elim
  · exact p1.elim
noncomputable def ixD : D → D → Res D
  | .lst ds, .int i => match atI ds i with
    | some d => .ok d
    | none => .bad
  | .fz ds, .int i => match atI ds i with
    | some d => .ok d
    | none => .bad
  | .tup ds, .int i => match atI ds i with
    | some d => .ok d
    | none => .bad
  | .kt ds, .int i => match atI ds i with
    | some d => .ok d
    | none => .bad
  | .str z, .int i => guard (z.length ≤ sizeLine) (match atI z.cps.toList i with
    | some n => .ok (.str ⟨#[n]⟩)
    | none => .bad)
  | _, _ => .bad
theorem RpA.atI {K : PySem.W.Frag} {cm : CM} {S : Hp} {xs : List V} {ds : List D} {i : Int} {d : D} (h : RpA K cm S xs ds) (q : atI ds i = some d) : ∃ v, L2.atI xs i = some v ∧ Rp K cm S v d := by
  unfold L2.atI at q ⊢
  rw [h.length]
  cases hj : ixN ds.length i with
  | none => rw [hj] at q; cases q
  | some j => rw [hj] at q; exact h.get q
theorem os_ix : OpS c (mV c) (rIx c.K) ixD := by
  intro σ S H x y d e Q ex hx hy p
  unfold ixD at p
  split at p
  · split at p
    · rename_i hd
      obtain ⟨q, xs, rfl, a1, r1⟩ := hx.list ex
      cases hy.int
      obtain ⟨v, h1, h2⟩ := r1.atI hd
      exact .inl ⟨q, xs, _, v, rfl, rfl, .inl (.inl a1), h1, p.here ex h2⟩
    · exact p.elim
  · split at p
    · rename_i hd
      obtain ⟨q, xs, rfl, a1, r1⟩ := hx.fz ex
      cases hy.int
      obtain ⟨v, h1, h2⟩ := r1.atI hd
      exact .inl ⟨q, xs, _, v, rfl, rfl, a1, h1, p.here ex h2⟩
    · exact p.elim
  · split at p
    · rename_i hd
      obtain ⟨q, xs, rfl, a1, r1, s1⟩ := hx.tup ex
      cases hy.int
      obtain ⟨v, h1, h2⟩ := r1.atI hd
      exact .inr (.inl ⟨q, xs, _, v, rfl, rfl, a1, h1, p.here ex h2⟩)
    · exact p.elim
  · split at p
    · rename_i hd
      obtain ⟨q, xs, rfl, a1, r1, s1⟩ := hx.kt ex
      cases hy.int
      obtain ⟨v, h1, h2⟩ := r1.atI hd
      exact .inr (.inl ⟨q, xs, _, v, rfl, rfl, a1, h1, p.here ex h2⟩)
    · exact p.elim
  · obtain ⟨hl, p⟩ := p.gd
    cases hx.str; cases hy.int
    split at p
    · rename_i hd
      exact .inr (.inr ⟨_, _, _, rfl, rfl, hl, hd, p.here ex (.str _)⟩)
    · exact p.elim
  · exact p.elim
theorem de_ix (ha : PE X a (tR c G f1)) (hb : PE X b (tR c G f2)) (hs : PlainIx b) (hK : c.K = X.K := by rfl) : PE X (.Subscript a b pos) (tV c G (dOp ixD f1 f2)) :=
  pe_imp (pe_ix ix_seq ha hb hs) (by rw [← hK]; exact op_rd os_ix)
def cutL {α : Type} (xs : List α) (lo hi : Option Int) : List α := (xs.drop (HT.sIx xs.length 0 lo)).take (HT.sIx xs.length xs.length hi - HT.sIx xs.length 0 lo)
def asI : D → Res Int
  | .int i => .ok i
  | _ => .bad
def dNoP : Rho → Res (Option Int) := fun _ => .ok none
def dPart (f : Rho → Res D) : Rho → Res (Option Int) := fun r => (f r).bind fun d => (asI d).bind fun i => .ok (some i)
theorem po_imp {oe : Option Expr} {t t' : TO} (h : PO X oe t) (k : ∀ σ H Q, t' σ H Q → t σ H Q) : PO X oe t' := ⟨fun pins s σ H Q I q => h.run pins s σ H Q I (k σ H Q q)⟩
abbrev tP (c : Cf) (G : List Ow) (f : Rho → Res (Option Int)) : TO := rd c G f (mE (Option Int))
theorem dp_none : PO X none (tP c G dNoP) := po_imp po_none fun σ H Q ⟨S0, H0, S, r, ok, p⟩ => p.go ok.ex _ rfl
theorem of_asI {σ : St} {S H : Hp} {d : D} {k : Int → Hp → Hp → Prop} (p : PostG c σ S H (asI d) k) : ∃ i, d = .int i ∧ PostG c σ S H (.ok i) k := by
  cases d with
  | int i => exact ⟨i, rfl, p⟩
  | _ => exact p.elim
theorem dp_some (h : PE X e (tV c G f)) : PO X (some e) (tP c G (dPart f)) := po_imp (po_some h) fun σ H Q ⟨S0, H0, S, r, ok, p⟩ => rd_seq ok p fun d v S1 H1 w1 o1 m1 p1 => by
  obtain ⟨i, rfl, q1⟩ := of_asI p1.unbind
  cases m1
  exact ⟨i, rfl, (q1.go o1.ex).go o1.ex _ rfl⟩
variable {fl fh : Rho → Res (Option Int)} {lo hi : Option Expr} {p2 : Pos}
noncomputable def slD (d : D) (lo hi : Option Int) : Res D := match d with
  | .lst ds => .ok (.lst (cutL ds lo hi))
  | .fz ds => .ok (.lst (cutL ds lo hi))
  | .tup ds => .ok (.tup (cutL ds lo hi))
  | .str z => guard (z.length ≤ sizeLine) (.ok (.str (cutS z lo hi)))
  | _ => .bad
def dSl (g : D → Option Int → Option Int → Res D) (f : Rho → Res D) (fl fh : Rho → Res (Option Int)) : Rho → Res D := fun r => (f r).bind fun d => (fl r).bind fun l => (fh r).bind fun h => g d l h
def rSlX (K : PySem.W.Frag) : V → Option Int → Option Int → Hp → VK → Prop := fun x lo hi H Q => rSlL K x lo hi H Q ∨ rSlA K x lo hi H Q ∨ rSlS x lo hi H Q
theorem sl_x : SlR X (rSlX X.K) := sl_list.or (sl_tupA.or sl_str)
theorem RpA.cut {K : PySem.W.Frag} {cm : CM} {S : Hp} {xs : List V} {ds : List D} {lo hi : Option Int} (h : RpA K cm S xs ds) : RpA K cm S (cutV xs lo hi) (cutL ds lo hi) := by
  unfold cutV cutL
  rw [h.length]
  exact (h.drop _).take _
theorem cutV_whole {xs : List V} {lo hi : Option Int} (h : HT.sIx xs.length 0 lo = 0 ∧ HT.sIx xs.length xs.length hi = xs.length) : cutV xs lo hi = xs := by
  unfold cutV
  rw [h.1, h.2]
  simp
theorem de_sl (ha : PE X a (tR c G f)) (hl : PO X lo (tP c G fl)) (hh : PO X hi (tP c G fh)) (hK : c.K = X.K := by rfl) : PE X (.Subscript a (.Slice lo hi none p2) pos) (tV c G (dSl slD f fl fh)) :=
  pe_imp (pe_slice sl_x ha hl hh) fun σ H Q ⟨S0, H0, S, r, ok, p⟩ => rd_seq ok p fun d v S1 H1 w1 o1 m1 p1 => rd_seq o1 p1 fun l l' S2 H2 w2 o2 m2 p2 => rd_seq o2 p2 fun h h' S3 H3 w3 o3 m3 p3 => by
    have m1 := RpB.mono m1 (w2.s.trans w3.s) (w2.h.trans w3.h)
    rw [show l' = l from m2, show h' = h from m3, ← hK]
    cases d with
    | lst ds =>
      obtain ⟨q, xs, rfl, a1, r1⟩ := m1.list o3.ex
      exact .inl ⟨q, xs, rfl, .inl (.inl a1), fun q hq => PostG.laid p3 o3.ex hq (.lst upd_same (r1.cut.mono (Ex.new (o3.ex.nn hq))))⟩
    | fz ds =>
      obtain ⟨q, xs, rfl, a1, r1⟩ := m1.fz o3.ex
      exact .inl ⟨q, xs, rfl, a1, fun q hq => PostG.laid p3 o3.ex hq (.lst upd_same (r1.cut.mono (Ex.new (o3.ex.nn hq))))⟩
    | tup ds =>
      obtain ⟨q, xs, rfl, a1, r1, s1⟩ := m1.tup o3.ex
      refine .inr (.inl ⟨q, xs, rfl, a1, fun hw => p3.go o3.ex _ (.tup s1 ?_), fun _ q hq => PostG.laid p3 o3.ex hq (.tup upd_same (r1.cut.mono (Ex.new (o3.ex.nn hq))))⟩)
      have := r1.cut (lo := l) (hi := h)
      rw [cutV_whole hw] at this
      exact this
    | str z =>
      obtain ⟨hl, p3⟩ := p3.gd
      cases m1.str
      exact .inr (.inr ⟨z, rfl, hl, p3.go o3.ex _ (.str _)⟩)
    | _ => exact p3.elim
/-- a slice of a list, the new list one's own -/
def slL (d : D) (lo hi : Option Int) : Res D := match d with
  | .lst ds => .ok (.lst (cutL ds lo hi))
  | .fz ds => .ok (.lst (cutL ds lo hi))
  | _ => .bad
end
end Dx
end S_DxD
section S_DxE
set_option Elab.async false
set_option linter.all false
set_option maxRecDepth 100000
set_option maxHeartbeats 2000000
namespace Dx
open PySem L2
/-- what is wanted behind a statement -/
def PostS (c : Cf) (S0 H0 : Hp) (L G' : List Ow) (o : SR) (E : Ends) : Prop :=
  match o with
  | .nx r => ∀ σ' S' H', EnvOk c S0 H0 G' S' H' σ' r → E.nx σ' H'
  | .rt d => if c.rm then ∀ p ho S' H', Fwd S0 H0 S' H' → H0 p = none → S' p = none → H' p = some ho → RpO c.K c.cm S' ho d → E.rt (.ref p) H'
      else ∀ v S' H', Fwd S0 H0 S' H' → Rp c.K c.cm S' v d → E.rt v H'
  | .bk r => ∀ σ' S' H', EnvOk c S0 H0 L S' H' σ' r → E.bk σ' H'
  | .ct r => ∀ σ' S' H', EnvOk c S0 H0 L S' H' σ' r → E.ct σ' H'
  | .er r n ns vs => ∀ C dd σ' S' H' fs, c.cm n = some C → Fwd S0 H0 S' H' → (∀ g, c.ge = some g → EnvOk c S0 H0 g S' H' σ' r) → S' dd = some (.xd fs) → ns = fs.map (·.1) → RpA c.K c.cm S' (fs.map (·.2)) vs → c.W (.ref C) (some dd) σ' H'
  | .bad => False
def sD (c : Cf) (L G G' : List Ow) (F : Rho → SR) : TS := fun E σ H => ∃ S0 H0 S r, EnvOk c S0 H0 G S H σ r ∧ PostS c S0 H0 L G' (F r) E
def liftS {α : Type} (r : Rho) (x : Res α) (k : α → SR) : SR := match x with
  | .ok a => k a
  | .err n ns vs => .er r n ns vs
  | .bad => .bad
/-- where a try's clauses ask for the slots, the kinds are the ones told -/
def Gok (c : Cf) (G : List Ow) : Prop := ∀ g, c.ge = some g → g = G
section
variable {X : Cx} {c : Cf} {L G G' G'' : List Ow} {σ : St} {S0 H0 S H : Hp} {r : Rho} {α β : Type} {E : Ends}
theorem st_seq {f : Rho → Res α} {R : Md β α} (hg : Gok c G) (e : EnvOk c S0 H0 G S H σ r) {k : α → SR} (p : PostS c S0 H0 L G' (liftS r (f r) k) E) {Q : β → Hp → Prop}
    (h : ∀ a b S' H', Fwd S H S' H' → EnvOk c S0 H0 G S' H' σ r → R H S' H' b a → PostS c S0 H0 L G' (k a) E → Q b H') : rd c G f R σ H Q := by
  refine ⟨S0, H0, S, r, e, ?_⟩
  cases hf : f r with
  | ok a => rw [hf] at p; exact fun S' H' fw b hb => h a b S' H' fw (e.go fw) hb p
  | err n ns vs =>
    rw [hf] at p
    exact fun C dd S' H' fs h1 fw h2 h3 h4 => p C dd σ S' H' fs h1 (e.fwd.trans fw) (fun g q => by rw [hg g q]; exact e.go fw) h2 h3 h4
  | bad => rw [hf] at p; exact p.elim
/-- the stable part as the new base -/
theorem EnvOk.rebase (e : EnvOk c S0 H0 G S H σ r) : EnvOk c S H0 G S H σ r := ⟨⟨Ex.refl, e.fwd.h, e.fwd.sub, fun a o h n => (by rw [n] at h; cases h), e.fwd.tb⟩, e.len, e.slot, e.sep, e.sto⟩
theorem Fwd.unbase {S' H' : Hp} (f : Fwd S0 H0 S H) (g : Fwd S H0 S' H') : Fwd S0 H0 S' H' := ⟨f.s.trans g.s, g.h, g.sub, fun a o h n => (by
  cases q : S a with
  | some u => exact f.new a u q n
  | none => exact g.new a o h q), g.tb⟩
theorem EnvOk.unbase {S' H' : Hp} {σ' : St} {r' : Rho} (f : Fwd S0 H0 S H) (e : EnvOk c S H0 G' S' H' σ' r') : EnvOk c S0 H0 G' S' H' σ' r' := ⟨f.unbase e.fwd, e.len, e.slot, e.sep, e.sto⟩
theorem PostS.rebase {o : SR} (f : Fwd S0 H0 S H) (p : PostS c S0 H0 L G' o E) : PostS c S H0 L G' o E := by
  cases o with
  | nx r => exact fun σ' S' H' e => p σ' S' H' (e.unbase f)
  | rt d =>
    unfold PostS at p ⊢
    dsimp only at p ⊢
    split
    · rename_i h
      rw [if_pos h] at p
      exact fun q ho S' H' w => p q ho S' H' (f.unbase w)
    · rename_i h
      rw [if_neg h] at p
      exact fun v S' H' w => p v S' H' (f.unbase w)
  | bk r => exact fun σ' S' H' e => p σ' S' H' (e.unbase f)
  | ct r => exact fun σ' S' H' e => p σ' S' H' (e.unbase f)
  | er r n ns vs => exact fun C dd σ' S' H' fs h1 w h2 => p C dd σ' S' H' fs h1 (f.unbase w) fun g q => (h2 g q).unbase f
  | bad => exact p
def seqF (F K : Rho → SR) : Rho → SR := fun r => match F r with
  | .nx r' => K r'
  | o => o
theorem ds_nil : PSs X [] (sD c L G G .nx) := pss_imp pss_nil fun E σ H ⟨S0, H0, S, r, ok, p⟩ => p σ S H ok
theorem ds_cons {st : Stmt} {rest : List Stmt} {F K : Rho → SR} (h1 : PS X st (sD c L G G' F)) (h2 : PSs X rest (sD c L G' G'' K)) : PSs X (st :: rest) (sD c L G G'' (seqF F K)) := pss_imp (pss_cons h1 h2) fun E σ H ⟨S0, H0, S, r, ok, p⟩ => by
  refine ⟨S0, H0, S, r, ok, ?_⟩
  unfold seqF at p
  cases hF : F r with
  | nx r' => rw [hF] at p; exact fun σ' S' H' e => ⟨S0, H0, S', r', e, p⟩
  | rt d => rw [hF] at p; exact p
  | bk r' => rw [hF] at p; exact p
  | ct r' => rw [hF] at p; exact p
  | er r' n ns vs => rw [hF] at p; exact p
  | bad => rw [hF] at p; exact p.elim
theorem ds_one {st : Stmt} {F : Rho → SR} (h1 : PS X st (sD c L G G' F)) : PSs X [st] (sD c L G G' F) := pss_one h1
/-- an own object becomes a value, ahead of a block; behind one -/
theorem EnvOk.pubL (e : EnvOk c S0 H0 G S H σ r) (i : Nat) (hk : kd G i = .o ∨ kd G i = .v) : Lo (fun H => ∃ S', EnvOk c S0 H0 (G.set i .v) S' H σ r) H := by
  by_cases h : kd G i = .o ∧ ∃ d, r[i]? = some (some d) ∧ isDct d = true
  · obtain ⟨k, d, h1, h2⟩ := h
    exact .inr (e.pubD i k h1 h2)
  · by_cases k : kd G i = .o
    · exact .inl (e.pub i hk fun d hd => by
        cases q : isDct d with
        | false => rfl
        | true => exact (h ⟨k, d, hd, q⟩).elim)
    · have k' : kd G i = .v := hk.resolve_left k
      have all : ∀ j, kd (G.set i .v) j = kd G j := fun j => by
        by_cases ne : i = j
        · subst ne; rw [kd_set_self, k']
        · exact kd_set_ne ne
      exact .inl ⟨S, e.fwd, e.len, fun j b hb => by rw [all]; exact e.slot j b hb, fun j l b b' q hj hk kj kk sj sk => e.sep j l b b' q hj hk ((all j) ▸ kj) ((all l) ▸ kk) sj sk, e.sto_un i hk⟩
theorem Lo.imp {Q R : Hp → Prop} {H : Hp} (h : Lo Q H) (k : ∀ H, Q H → R H) : Lo R H := by
  rcases h with h | ⟨p, u, h1, h2, h⟩
  · exact .inl (k _ h)
  · exact .inr ⟨p, u, h1, h2, fun w => k _ (h w)⟩
theorem ds_pub {sts : List Stmt} {F : Rho → SR} (i : Nat) (h : PSs X sts (sD c L (G.set i .v) G' F)) (hk : kd G i = .o ∨ kd G i = .v) : PSs X sts (sD c L G G' F) := pss_lock h fun E σ H ⟨S0, H0, S, r, ok, p⟩ =>
  (ok.pubL i hk).imp fun H' ⟨S', ok'⟩ => ⟨S0, H0, S', r, ok', p⟩
theorem ds_pubE {sts : List Stmt} {F : Rho → SR} (i : Nat) (h : PSs X sts (sD c L G G' F)) (hk : kd G' i = .o ∨ kd G' i = .v) : PSs X sts (sD c L G (G'.set i .v) F) := pss_lockE h fun E σ H ⟨S0, H0, S, r, ok, p⟩ => by
  refine ⟨S0, H0, S, r, ok, ?_⟩
  cases hF : F r with
  | nx r' =>
    rw [hF] at p
    exact fun σ' S' H' e => (e.pubL i hk).imp fun H'' ⟨S'', e'⟩ => p σ' S'' H'' e'
  | rt d => rw [hF] at p; exact p
  | bk r' => rw [hF] at p; exact p
  | ct r' => rw [hF] at p; exact p
  | er r' n ns vs => rw [hF] at p; exact p
  | bad => rw [hF] at p; exact p.elim
variable {e : Expr} {pos : Pos} {f : Rho → Res D}
def setF (i : Nat) (f : Rho → Res D) : Rho → SR := fun r => liftS r (f r) fun d => .nx (r.set i (some d))
/-- x = e -/
theorem ds_set (i : Nat) {x : Str} {pos' : Pos} (hg : Gok c G) (hN : X.N.Nodup) (hi : X.N[i]? = some x) (hx : Loc X.env.scope x) (he : PE X e (tV c G f)) (hs : swapsWith e (some (.Name x pos')) pos.line X.env = pure false := by rfl)
    (hf : X.fn x = true ∨ X.env.scope.names.lookup x = some .local := by first | exact .inl rfl | exact .inr rfl | assumption) : PS X (.Assign [.Name x pos'] e pos) (sD c L G (G.set i .v) (setF i f)) :=
  ps_imp (ps_set hN hi hx he hs hf) fun E σ H ⟨S0, H0, S, r, ok, p⟩ => st_seq hg ok p fun d v S1 H1 w1 o1 m1 p1 => p1 _ S1 H1 (o1.setV i m1)
/-- x = e, a new object of one's own -/
theorem ds_setO (i : Nat) {x : Str} {pos' : Pos} (hg : Gok c G) (hG : i < G.length) (hN : X.N.Nodup) (hi : X.N[i]? = some x) (hx : Loc X.env.scope x) (he : PE X e (tO c G f)) (hs : swapsWith e (some (.Name x pos')) pos.line X.env = pure false := by rfl)
    (hf : X.fn x = true ∨ X.env.scope.names.lookup x = some .local := by first | exact .inl rfl | exact .inr rfl | assumption) : PS X (.Assign [.Name x pos'] e pos) (sD c L G (G.set i .o) (setF i f)) :=
  ps_imp (ps_set hN hi hx he hs hf) fun E σ H ⟨S0, H0, S, r, ok, p⟩ => st_seq hg ok p fun d v S1 H1 w1 o1 m1 p1 => by
    obtain ⟨q, ho, rfl, n, ns, hp, h⟩ := m1
    exact p1 _ S1 H1 (ok.setO w1 i hG n ns hp h)
def retF (f : Rho → Res D) : Rho → SR := fun r => liftS r (f r) .rt
theorem ds_ret (hg : Gok c G) (hr : c.rm = false) (he : PE X e (tV c G f)) : PS X (.Return (some e) pos) (sD c L G G' (retF f)) := ps_imp (ps_ret he) fun E σ H ⟨S0, H0, S, r, ok, p⟩ => st_seq hg ok p fun d v S1 H1 w1 o1 m1 p1 => by
  unfold PostS at p1
  rw [hr] at p1
  exact p1 v S1 H1 o1.fwd m1
def dropF {α : Type} (f : Rho → Res α) : Rho → SR := fun r => liftS r (f r) fun _ => .nx r
theorem ds_expr {R : Md V D} (hg : Gok c G) (he : PE X e (rd c G f R)) (hs : swapsWith e none pos.line X.env = pure false := by rfl) : PS X (.Expr e pos) (sD c L G G (dropF f)) := ps_imp (ps_expr he hs) fun E σ H ⟨S0, H0, S, r, ok, p⟩ =>
  st_seq hg ok p fun d v S1 H1 w1 o1 m1 p1 => p1 σ S1 H1 o1
theorem ds_break : PS X (.Break pos) (sD c G G G' .bk) := ps_imp ps_break fun E σ H ⟨S0, H0, S, r, ok, p⟩ => p σ S H ok
def ifF (t : Rho → Res Bool) (F K : Rho → SR) : Rho → SR := fun r => liftS r (t r) fun b => if b = true then F r else K r
theorem ds_if {cnd : Expr} {sa sb : List Stmt} {t : Rho → Res Bool} {F K : Rho → SR} (hg : Gok c G) (hc : PT X cnd (tT c G t)) (ha : PSs X sa (sD c L G G' F)) (hb : PSs X sb (sD c L G G' K)) : PS X (.If cnd sa sb pos) (sD c L G G' (ifF t F K)) :=
  ps_imp (ps_if hc ha hb) fun E σ H ⟨S0, H0, S, r, ok, p⟩ => st_seq hg ok p fun x v S1 H1 w1 o1 m1 p1 => by
    rw [show v = x from m1]
    cases x with
    | true => exact ⟨S0, H0, S1, r, o1, p1⟩
    | false => exact ⟨S0, H0, S1, r, o1, p1⟩
variable {a b : Expr} {f1 f2 : Rho → Res D} {apos cpos p' : Pos}
/-- the own list in slot i -/
def ownL (i : Nat) (r : Rho) : Res (List D) := match r[i]? with
  | some (some (.lst ds)) => .ok ds
  | _ => .bad
theorem of_ownL {i : Nat} {k : List D → SR} (e : EnvOk c S0 H0 G S H σ r) (kd' : kd G i = .o) (p : PostS c S0 H0 L G' (liftS r (ownL i r) k) E) :
    ∃ q xs ds, r[i]? = some (some (.lst ds)) ∧ σ[i]? = some (some (.ref q)) ∧ H q = some (.lst xs) ∧ RpA c.K c.cm S xs ds ∧ PostS c S0 H0 L G' (k ds) E := by
  unfold ownL at p
  split at p
  · rename_i ds hd
    obtain ⟨q, ho, s1, s2, s3, s4, s5⟩ := e.own kd' hd
    cases s5 with
    | lst r1 => exact ⟨q, _, ds, hd, s1, s2, r1, p⟩
  · exact p.elim
noncomputable def guardS (p : Prop) (x : SR) : SR := @ite _ p (Classical.propDecidable p) x .bad
theorem guardS_pos {p : Prop} {x : SR} (h : p) : guardS p x = x := by unfold guardS; exact if_pos h
noncomputable def appF (i : Nat) (f : Rho → Res D) : Rho → SR := fun r => liftS r (ownL i r) fun ds => liftS r (f r) fun d => guardS (ds.length < sizeLine) (.nx (r.set i (some (.lst (ds ++ [d])))))
theorem PostS.ite {p : Prop} [Decidable p] {x : SR} (h : PostS c S0 H0 L G' (if p then x else .bad) E) : p ∧ PostS c S0 H0 L G' x E := by
  by_cases hp : p
  · rw [if_pos hp] at h; exact ⟨hp, h⟩
  · rw [if_neg hp] at h; exact h.elim
theorem PostS.gd {p : Prop} {x : SR} (h : PostS c S0 H0 L G' (guardS p x) E) : p ∧ PostS c S0 H0 L G' x E := by
  by_cases hp : p
  · rw [guardS_pos hp] at h; exact ⟨hp, h⟩
  · unfold guardS at h; rw [if_neg hp] at h; exact h.elim
theorem pe_app {o : Expr} {to te : TE} (ho : PE X o to) (he : PE X e te) (hbase : attributeBase o "append" X.env (eval o X.env) = eval o X.env := by rfl)
    (hfew : ((backTo cpos (starEach [e] X.env)).all (fun x => !x.1) && (backToKw cpos (keywordEach [] X.env)).all (fun x => x.1.isSome) && decide ([e].length + ([] : List Keyword).length + (if ([] : List Keyword).isEmpty then 0 else 1) < 30)) = true := by rfl)
    (hline : (apos.endLine == cpos.line) = true := by rfl) (hs : starEach [e] X.env = (false, eval e X.env) :: starEach [] X.env := by rfl) :
    PE X (.Call (.Attribute o "append" apos) [e] [] cpos) (tBM X.K "list" rAppend to (tCons te tNil)) :=
  pe_bm PySem.F.plainAttrs_list PySem.F.slot_list_append PySem.F.type_list_append mt_append ho (pa_cons he pa_nil hs) hbase hfew hline hs rfl
theorem ds_app (i : Nat) {x : Str} {pn : Pos} (hg : Gok c G) (k : kd G i = .o) (ho : PE X (.Name x pn) (tVar i)) (he : PE X e (tV c G f)) (hw : swapsWith (.Call (.Attribute (.Name x pn) "append" apos) [e] [] cpos) none pos.line X.env = pure false := by rfl)
    (hbase : attributeBase (.Name x pn) "append" X.env (eval (.Name x pn) X.env) = eval (.Name x pn) X.env := by rfl)
    (hfew : ((backTo cpos (starEach [e] X.env)).all (fun x => !x.1) && (backToKw cpos (keywordEach [] X.env)).all (fun x => x.1.isSome) && decide ([e].length + ([] : List Keyword).length + (if ([] : List Keyword).isEmpty then 0 else 1) < 30)) = true := by rfl)
    (hline : (apos.endLine == cpos.line) = true := by rfl) (hs : starEach [e] X.env = (false, eval e X.env) :: starEach [] X.env := by rfl) :
    PS X (.Expr (.Call (.Attribute (.Name x pn) "append" apos) [e] [] cpos) pos) (sD c L G G (appF i f)) :=
  ps_imp (ps_expr (pe_app ho he hbase hfew hline hs) hw) fun E σ H ⟨S0, H0, S, r, ok, p⟩ => by
    obtain ⟨q, xs, ds, hd, z1, z2, z3, p1⟩ := of_ownL ok k p
    refine ⟨.ref q, z1, .inl ⟨rfl, xs, .inl (.inl z2)⟩, st_seq hg ok p1 fun d v S1 H1 w1 o1 m1 p2 => ?_⟩
    obtain ⟨hl, p2⟩ := p2.gd
    exact ⟨q, xs, v, rfl, rfl, w1.h _ _ z2, by rw [z3.length]; exact hl, p2 σ S1 _ (o1.mut k hd z1 (.lst ((z3.mono w1.s).app (.one m1))))⟩
/-- x[i] = e, x an own list -/
def stoF (i : Nat) (fi f : Rho → Res D) : Rho → SR := fun r => liftS r (f r) fun d => liftS r (ownL i r) fun ds => liftS r (fi r) fun k => liftS r (asI k) fun k => match ixN ds.length k with
  | some j => .nx (r.set i (some (.lst (ds.set j d))))
  | none => .bad
theorem ds_sto (i : Nat) {x : Str} {pn : Pos} {ix : Expr} {fi : Rho → Res D} (hg : Gok c G) (k : kd G i = .o) (ho : PE X (.Name x pn) (tVar i)) (hi : PE X ix (tV c G fi)) (he : PE X e (tV c G f))
    (ha : ∀ v, assign (.Subscript (.Name x pn) ix p') X.env v = (do
      let ov ← holding [v] (eval (.Name x pn) X.env)
      let iv ← holding [v, ov] (eval ix X.env)
      standAt p'
      holding [v, ov, iv] (setItem ov iv v)
      release [v, ov, iv] []) := by intro _; rfl)
    (hs : swapsWithSole [.Subscript (.Name x pn) ix p'] e pos.line X.env = pure false := by rfl) (hw : swappedStores [.Subscript (.Name x pn) ix p'] e X.env = pure none := by rfl)
    (h1 : (assignEach [.Subscript (.Name x pn) ix p'] X.env).map (·.2) = [assign (.Subscript (.Name x pn) ix p') X.env] := by rfl) :
    PS X (.Assign [.Subscript (.Name x pn) ix p'] e pos) (sD c L G G (stoF i fi f)) :=
  ps_imp (ps_asg he (pg_sub ho hi set_list ha) hs hw h1) fun E σ H ⟨S0, H0, S, r, ok, p⟩ => st_seq hg ok p fun d v S1 H1 w1 o1 m1 p1 => by
    obtain ⟨q, xs, ds, hd, z1, z2, z3, p2⟩ := of_ownL o1 k p1
    refine ⟨.ref q, z1, st_seq hg o1 p2 fun kk u S2 H2 w2 o2 m2 p3 => ?_⟩
    cases kk with
    | int j =>
      cases m2
      dsimp only [asI, liftS] at p3
      split at p3
      · rename_i n hn
        refine ⟨q, xs, j, n, rfl, rfl, w2.h _ _ z2, by rw [z3.length]; exact hn, p3 σ S2 _ (o2.mut k hd z1 (.lst (RpA.set (Rp.mono w2.s m1) n (z3.mono w2.s))))⟩
      · exact p3.elim
    | _ => exact p3.elim
/-- what is wanted behind a target -/
def PostR (c : Cf) (S0 H0 S H : Hp) (G' : List Ow) (σ : St) (ks : List Nat) (x : Res Rho) (Q : St → Hp → Prop) : Prop := match x with
  | .ok r' => ∀ σ', wipe σ' ks = wipe σ ks → EnvOk c S0 H0 G' S H σ' r' → Q σ' H
  | _ => False
theorem wipe_get (σ : St) : ∀ (vs : List Nat) (i : Nat), (wipe σ vs)[i]? = if i ∈ vs then σ[i]?.map (fun _ => none) else σ[i]?
  | [], i => by simp [wipe]
  | v :: vs, i => by
    show ((wipe σ vs).set v none)[i]? = _
    by_cases h : v = i
    · subst h
      rw [List.getElem?_set, if_pos rfl, wipe_length, if_pos (List.mem_cons_self)]
      split
      · rename_i hl; simp [List.getElem?_eq_getElem hl]
      · rename_i hl; rw [List.getElem?_eq_none (by omega)]; rfl
    · rw [List.getElem?_set_ne h, wipe_get σ vs i]
      have : (i ∈ v :: vs) ↔ i ∈ vs := by simp [List.mem_cons, Ne.symm h]
      simp only [this]
theorem wipe_set {σ : St} {i : Nat} {x : Option V} : wipe (σ.set i x) [i] = wipe σ [i] := by
  show (σ.set i x).set i none = σ.set i none
  exact List.set_set _
theorem wipe_len {σ σ' : St} {ks : List Nat} (h : wipe σ' ks = wipe σ ks) : σ'.length = σ.length := by
  have := congrArg List.length h
  rw [wipe_length, wipe_length] at this
  exact this
theorem wipe_get_eq {σ σ' : St} {ks : List Nat} (h : wipe σ' ks = wipe σ ks) {i : Nat} (hi : i ∉ ks) : σ'[i]? = σ[i]? := by
  have := congrArg (fun l : St => l[i]?) h
  simp only [wipe_get, if_neg hi] at this
  exact this
theorem wipe_app {σ σ1 σ2 : St} {k1 k2 : List Nat} (h1 : wipe σ1 k1 = wipe σ k1) (h2 : wipe σ2 k2 = wipe σ1 k2) : wipe σ2 (k1 ++ k2) = wipe σ (k1 ++ k2) := by
  have l1 := wipe_len h1
  have l2 := wipe_len h2
  apply List.ext_getElem?
  intro i
  rw [wipe_get, wipe_get]
  by_cases hi : i ∈ k1 ++ k2
  · rw [if_pos hi, if_pos hi]
    by_cases hl : i < σ.length
    · rw [List.getElem?_eq_getElem hl, List.getElem?_eq_getElem (show i < σ2.length by omega)]; rfl
    · rw [List.getElem?_eq_none (by omega), List.getElem?_eq_none (by omega)]
  · rw [if_neg hi, if_neg hi]
    have a1 : i ∉ k1 := fun z => hi (List.mem_append_left _ z)
    have a2 : i ∉ k2 := fun z => hi (List.mem_append_right _ z)
    rw [wipe_get_eq h2 a2, wipe_get_eq h1 a1]
/-- a target by data -/
def gD (c : Cf) (G G' : List Ow) (ks : List Nat) (t : D → Rho → Res Rho) : TG := fun v σ H Q => ∃ S0 H0 S r d, EnvOk c S0 H0 G S H σ r ∧ Rp c.K c.cm S v d ∧ PostR c S0 H0 S H G' σ ks (t d r) Q
theorem pg_imp {tg : Expr} {t t' : TG} (h : PG X tg t) (k : ∀ v σ H Q, t' v σ H Q → t v σ H Q) : PG X tg t' := ⟨fun pins s σ H v u Q I r q => h.run pins s σ H v u Q I r (k v σ H Q q)⟩
theorem pgs_imp {tg : List Expr} {t t' : TGs} (h : PGs X tg t) (k : ∀ v σ H Q, t' v σ H Q → t v σ H Q) : PGs X tg t' := ⟨fun pins s σ H v u Q I r q => h.run pins s σ H v u Q I r (k v σ H Q q)⟩
def tgN (i : Nat) : D → Rho → Res Rho := fun d r => .ok (r.set i (some d))
theorem dg_name (i : Nat) {x : Str} (hN : X.N.Nodup) (hi : X.N[i]? = some x) (hx : Loc X.env.scope x) (hf : X.fn x = true ∨ X.env.scope.names.lookup x = some .local := by first | exact .inl rfl | exact .inr rfl | assumption) :
    PG X (.Name x pos) (gD c G (G.set i .v) [i] (tgN i)) := pg_imp (pg_name hN hi hx hf) fun v σ H Q ⟨S0, H0, S, r, d, ok, hv, p⟩ => p _ wipe_set (ok.setV i hv)
def gDs (c : Cf) (G G' : List Ow) (ks : List Nat) (t : List D → Rho → Res Rho) : TGs := fun vs σ H Q => ∃ S0 H0 S r ds, EnvOk c S0 H0 G S H σ r ∧ RpA c.K c.cm S vs ds ∧ PostR c S0 H0 S H G' σ ks (t ds r) Q
def tgNil : List D → Rho → Res Rho
  | [], r => .ok r
  | _ :: _, _ => .bad
def tgCons (t : D → Rho → Res Rho) (u : List D → Rho → Res Rho) : List D → Rho → Res Rho
  | [], _ => .bad
  | d :: ds, r => (t d r).bind (u ds)
theorem dg_nil : PGs X [] (gDs c G G [] tgNil) := pgs_imp pgs_nil fun vs σ H Q ⟨S0, H0, S, r, ds, ok, hv, p⟩ => by
  cases hv with
  | nil => exact ⟨rfl, p σ rfl ok⟩
  | cons _ _ => exact p.elim
theorem dg_cons {es : List Expr} {t : D → Rho → Res Rho} {u : List D → Rho → Res Rho} {k1 k2 : List Nat} (h1 : PG X e (gD c G G' k1 t)) (h2 : PGs X es (gDs c G' G'' k2 u)) (hs : (assignEach (e :: es) X.env).map (·.2) = assign e X.env :: (assignEach es X.env).map (·.2) := by rfl) :
    PGs X (e :: es) (gDs c G G'' (k1 ++ k2) (tgCons t u)) := pgs_imp (pgs_cons h1 h2 hs) fun vs σ H Q ⟨S0, H0, S, r, ds, ok, hv, p⟩ => by
  cases hv with
  | nil => exact p.elim
  | @cons v vs d ds hv hr =>
    refine ⟨v, vs, rfl, S0, H0, S, r, d, ok, hv, ?_⟩
    have p : PostR c S0 H0 S H G'' σ (k1 ++ k2) ((t d r).bind (u ds)) Q := p
    cases ht : t d r with
    | ok r1 =>
      rw [ht] at p
      intro σ1 z1 ok1
      refine ⟨S0, H0, S, r1, ds, ok1, hr, ?_⟩
      have p : PostR c S0 H0 S H G'' σ (k1 ++ k2) (u ds r1) Q := p
      cases hu : u ds r1 with
      | ok r2 => rw [hu] at p; exact fun σ2 z2 ok2 => p σ2 (wipe_app z1 z2) ok2
      | err _ _ _ => rw [hu] at p; exact p.elim
      | bad => rw [hu] at p; exact p.elim
    | err _ _ _ => rw [ht] at p; exact p.elim
    | bad => rw [ht] at p; exact p.elim
def tgT (n : Nat) (u : List D → Rho → Res Rho) : D → Rho → Res Rho := fun d r => match d with
  | .tup ds => if ds.length = n then u ds r else .bad
  | .kt ds => if ds.length = n then u ds r else .bad
  | _ => .bad
theorem dg_tup {es : List Expr} {k n : Nat} {ks : List Nat} {u : List D → Rho → Res Rho} (hc : X.calm = true) (h : PGs X es (gDs c G G' ks u)) (hn : (assignEach es X.env).length = n := by rfl) (hst : (assignEach es X.env).findIdx? (·.1) = none := by rfl) (hK : c.K = X.K := by rfl) :
    PG X (.Tuple es k pos) (gD c G G' ks (tgT n u)) := pg_imp (pg_tup hc h hn hst) fun v σ H Q ⟨S0, H0, S, r, d, ok, hv, p⟩ => by
  unfold tgT at p
  cases hv with
  | @kt a xs ds q rr =>
    dsimp only at p
    by_cases hl : ds.length = n
    · rw [if_pos hl] at p
      exact ⟨a, xs, rfl, by rw [← hK]; exact ok.ex.t q, by rw [rr.length]; exact hl, S0, H0, S, r, ds, ok, rr, p⟩
    · rw [if_neg hl] at p; exact p.elim
  | @tup a xs ds q rr =>
    dsimp only at p
    by_cases hl : ds.length = n
    · rw [if_pos hl] at p
      exact ⟨a, xs, rfl, by rw [← hK]; exact .inl (.inl (ok.ex _ _ q)), by rw [rr.length]; exact hl, S0, H0, S, r, ds, ok, rr, p⟩
    · rw [if_neg hl] at p; exact p.elim
  | _ => exact p.elim
def asgF (t : D → Rho → Res Rho) (f : Rho → Res D) : Rho → SR := fun r => liftS r (f r) fun d => match t d r with
  | .ok r' => .nx r'
  | _ => .bad
/-- target = e -/
theorem ds_asg {tg : Expr} {ks : List Nat} {t : D → Rho → Res Rho} (hg : Gok c G) (he : PE X e (tV c G f)) (ht : PG X tg (gD c G G' ks t)) (hs : swapsWithSole [tg] e pos.line X.env = pure false := by rfl) (hw : swappedStores [tg] e X.env = pure none := by rfl)
    (h1 : (assignEach [tg] X.env).map (·.2) = [assign tg X.env] := by rfl) : PS X (.Assign [tg] e pos) (sD c L G G' (asgF t f)) := ps_imp (ps_asg he ht hs hw h1) fun E σ H ⟨S0, H0, S, r, ok, p⟩ => st_seq hg ok p fun d v S1 H1 w1 o1 m1 p1 => by
  refine ⟨S0, H0, S1, r, d, o1, m1, ?_⟩
  cases ht : t d r with
  | ok r' => rw [ht] at p1; exact fun σ' _ ok' => p1 σ' S1 H1 ok'
  | err _ _ _ => rw [ht] at p1; exact p1.elim
  | bad => rw [ht] at p1; exact p1.elim
/-- x, y = a, b -/
def parF (i j : Nat) (f1 f2 : Rho → Res D) : Rho → SR := fun r => liftS r (dCons f1 (dCons f2 dNil) r) fun ds => match ds with
  | [d, e] => .nx ((r.set i (some d)).set j (some e))
  | _ => .bad
theorem ds_par (i j : Nat) {x y : Str} {px py pt pt2 : Pos} {kt k2 : Nat} (hg : Gok c G) (hc : X.calm = true) (hN : X.N.Nodup) (hi : X.N[i]? = some x) (hj : X.N[j]? = some y) (hij : i ≠ j)
    (hx : X.env.scope.names.lookup x = some .local) (hy : X.env.scope.names.lookup y = some .local) (ha : PE X a (tV c G f1)) (hb : PE X b (tV c G f2))
    (hw : swappedStores [.Tuple [.Name x px, .Name y py] kt pt] (.Tuple [a, b] k2 pt2) X.env = pure (some [x, y]))
    (hs : swapsWithSole [.Tuple [.Name x px, .Name y py] kt pt] (.Tuple [a, b] k2 pt2) pos.line X.env = pure false := by rfl)
    (hs1 : starEach [a, b] X.env = (false, eval a X.env) :: starEach [b] X.env := by rfl) (hs2 : starEach [b] X.env = (false, eval b X.env) :: starEach [] X.env := by rfl) :
    PS X (.Assign [.Tuple [.Name x px, .Name y py] kt pt] (.Tuple [a, b] k2 pt2) pos) (sD c L G ((G.set i .v).set j .v) (parF i j f1 f2)) :=
  ps_imp (ps_par hc hN hi hj hij hx hy (da_cons ha (da_cons hb da_nil hs2) hs1) hw hs) fun E σ H ⟨S0, H0, S, r, ok, p⟩ => st_seq hg ok p fun ds vs S1 H1 w1 o1 m1 p1 => by
    match ds, m1, p1 with
    | [d, e], .cons hd (.cons he .nil), p1 => exact ⟨_, _, rfl, p1 _ S1 H1 ((o1.setV i hd).setV j he)⟩
    | [], _, p1 => exact p1.elim
    | [_], _, p1 => exact p1.elim
    | _ :: _ :: _ :: _, _, p1 => exact p1.elim
def YOk (c : Cf) (S' : Hp) (ds : List D) (Y : Nat → Hp → V → Hp → Prop) : Prop := ∀ i S1 H1 x H2, i < ds.length → Ex S' S1 → Ex S1 H1 → Y i H1 x H2 → ∃ S2 d, Fwd S1 H1 S2 H2 ∧ ds[i]? = some d ∧ Rp c.K c.cm S2 x d
/-- the iterator J gives the data ds -/
def Gives (c : Cf) (H0 S' : Hp) (J : It) (ds : List D) : Prop := ∃ Gd Y, Walk J ds.length Gd Y ∧ (∀ S'' H'', Ex S' S'' → Ex S'' H'' → Ex H0 H'' → Gd H'') ∧ YOk c S' ds Y
def iD (c : Cf) (G : List Ow) (f : Rho → Res (List D)) : TI := fun σ H R => ∃ S0 H0 S r, EnvOk c S0 H0 G S H σ r ∧ PostG c σ S H (f r) fun ds S' H' => ∀ J, Gives c H0 S' J ds → R J H'
theorem pi_imp {tg it : Expr} {t t' : TI} (h : PI X tg it t) (k : ∀ σ H R, t' σ H R → t σ H R) : PI X tg it t' := ⟨fun pins s σ H R I q => h.run pins s σ H R I (k σ H R q)⟩
def dIt (g : D → Res (List D)) (f : Rho → Res D) : Rho → Res (List D) := fun r => (f r).bind g
theorem gives_list {c : Cf} {H0 S : Hp} {q : Addr} {xs : List V} {ds : List D} (h : SqL c.K S q xs) (rr : RpA c.K c.cm S xs ds) : Gives c H0 S (Itl c.K q) ds := by
  refine ⟨_, _, by rw [← rr.length]; exact walk_list (K := c.K) (a := q) (xs := xs), fun S'' H'' e1 e2 _ => e2.l (e1.l h), fun i S1 H1 x H2 hi e1 e2 y => ?_⟩
  obtain ⟨rfl, hx⟩ := y
  obtain ⟨d, h1, h2⟩ := rr.getV hx
  exact ⟨S1, d, Fwd.refl e2, h1, h2.mono e1⟩
theorem gives_tup {c : Cf} {H0 S : Hp} {q : Addr} {xs : List V} {ds : List D} (h : SqT c.K S q xs) (rr : RpA c.K c.cm S xs ds) : Gives c H0 S (Itt c.K q) ds := by
  refine ⟨_, _, by rw [← rr.length]; exact walk_tup (K := c.K) (a := q) (xs := xs), fun S'' H'' e1 e2 _ => e2.t (e1.t h), fun i S1 H1 x H2 hi e1 e2 y => ?_⟩
  obtain ⟨rfl, hx⟩ := y
  obtain ⟨d, h1, h2⟩ := rr.getV hx
  exact ⟨S1, d, Fwd.refl e2, h1, h2.mono e1⟩
variable {tg : Expr}
theorem di_list (he : PE X e (tV c G f)) (hK : c.K = X.K := by rfl) : PI X tg e (iD c G (dIt itemsL f)) := pi_imp (pi_list he) fun σ H R ⟨S0, H0, S, r, ok, p⟩ => rd_seq ok p fun d v S1 H1 w1 o1 m1 p1 => by
  rw [← hK]
  cases d with
  | lst ds =>
    cases m1 with | @lst q xs _ h rr =>
    exact ⟨q, rfl, ⟨xs, .inl (.inl (o1.ex _ _ h))⟩, p1.go o1.ex _ (gives_list (.inl (.inl h)) rr)⟩
  | fz ds =>
    cases m1 with | @fz q xs _ h rr =>
    exact ⟨q, rfl, ⟨xs, o1.ex.l h⟩, p1.go o1.ex _ (gives_list h rr)⟩
  | _ => exact p1.elim
theorem di_tup (he : PE X e (tV c G f)) (hK : c.K = X.K := by rfl) : PI X tg e (iD c G (dIt itemsT f)) := pi_imp (pi_tup he) fun σ H R ⟨S0, H0, S, r, ok, p⟩ => rd_seq ok p fun d v S1 H1 w1 o1 m1 p1 => by
  rw [← hK]
  cases d with
  | tup ds =>
    cases m1 with | @tup q xs _ h rr =>
    exact ⟨q, rfl, ⟨xs, .inl (.inl (o1.ex _ _ h))⟩, p1.go o1.ex _ (gives_tup (.inl (.inl h)) rr)⟩
  | _ => exact p1.elim
/-- range(n), range(a, b) -/
def rngL (lo : Int) (n : Nat) : List D := (List.range n).map fun (i : Nat) => D.int (lo + (i : Int))
theorem gives_rng {c : Cf} {H0 S : Hp} {lo : Int} {n : Nat} : Gives c H0 S (Itr lo n) (rngL lo n) := by
  have hl : (rngL lo n).length = n := by unfold rngL; simp
  refine ⟨_, _, by rw [hl]; exact walk_range, fun _ _ _ _ _ => trivial, fun i S1 H1 x H2 hi e1 e2 y => ?_⟩
  obtain ⟨rfl, rfl⟩ := y
  rw [hl] at hi
  exact ⟨S1, .int (lo + (i : Int)), Fwd.refl e2, by unfold rngL; simp [hi], .int _⟩
noncomputable def rng1 : List D → Res (List D)
  | [.int n] => guard (-4611686018427387904 ≤ n ∧ n < 4611686018427387904) (.ok (rngL 0 n.toNat))
  | _ => .bad
noncomputable def rng2 : List D → Res (List D)
  | [.int a, .int b] => guard (-4611686018427387904 ≤ a ∧ a < 4611686018427387904 ∧ -4611686018427387904 ≤ b ∧ b < 4611686018427387904) (.ok (rngL a (b - a).toNat))
  | _ => .bad
def dIts (g : List D → Res (List D)) (fs : Rho → Res (List D)) : Rho → Res (List D) := fun r => (fs r).bind g
theorem di_rng1 {p : Pos} {fs : Rho → Res (List D)} (hm : X.mg "range" = none) (hg : Gl X "range") (ha : PA X [a] (tAs c G fs)) (hs : starEach [a] X.env = [(false, eval a X.env)] := by rfl) : PI X tg (.Call (.Name "range" p) [a] [] pos) (iD c G (dIts rng1 fs)) :=
  pi_imp (pi_range1 hg hm ha hs) fun σ H R ⟨S0, H0, S, r, ok, p⟩ => rd_seq ok p fun ds vs S1 H1 w1 o1 m1 p1 => by
    unfold rng1 at p1
    split at p1
    · obtain ⟨hl, p1⟩ := p1.gd
      match vs, m1 with
      | _, .cons h .nil => cases h; exact ⟨_, rfl, by have := hl.1; omega, by have := hl.2; omega, p1.go o1.ex _ gives_rng⟩
    · exact p1.elim
theorem di_rng2 {p : Pos} {fs : Rho → Res (List D)} (hm : X.mg "range" = none) (hg : Gl X "range") (ha : PA X [a, b] (tAs c G fs)) (hs : starEach [a, b] X.env = [(false, eval a X.env), (false, eval b X.env)] := by rfl) (hs2 : starEach [b] X.env = [(false, eval b X.env)] := by rfl) :
    PI X tg (.Call (.Name "range" p) [a, b] [] pos) (iD c G (dIts rng2 fs)) :=
  pi_imp (pi_range2 hg hm ha hs hs2) fun σ H R ⟨S0, H0, S, r, ok, p⟩ => rd_seq ok p fun ds vs S1 H1 w1 o1 m1 p1 => by
    unfold rng2 at p1
    split at p1
    · obtain ⟨hl, p1⟩ := p1.gd
      match vs, m1 with
      | _, .cons h (.cons h' .nil) => cases h; cases h'; exact ⟨_, _, rfl, by obtain ⟨h1, h2, h3, h4⟩ := hl; omega, p1.go o1.ex _ gives_rng⟩
    · exact p1.elim
/-- the signs of a text -/
def signs (z : Str) : List D := z.cps.toList.map fun n => .str ⟨#[n]⟩
def itemsS : D → Res (List D)
  | .str z => .ok (signs z)
  | _ => .bad
theorem di_str (he : PE X e (tV c G f)) : PI X tg e (iD c G (dIt itemsS f)) := pi_imp (pi_str he) fun σ H R ⟨S0, H0, S, r, ok, p⟩ => rd_seq ok p fun d v S1 H1 w1 o1 m1 p1 => by
  cases d with
  | str z =>
    cases m1
    have hl : (signs z).length = z.cps.size := by unfold signs; simp
    refine ⟨z, rfl, p1.go o1.ex _ ⟨_, _, by rw [hl]; exact walk_str (z := z), fun _ _ _ _ _ => trivial, fun i S2 H2 x H3 hi e1 e2 y => ?_⟩⟩
    obtain ⟨rfl, n, hn, rfl⟩ := y
    refine ⟨S2, .str ⟨#[n]⟩, Fwd.refl e2, ?_, .str _⟩
    unfold signs
    rw [List.getElem?_map, Array.getElem?_toList, hn]; rfl
  | _ => exact p1.elim
def loopF (t : D → Rho → Res Rho) (F : Rho → SR) : List D → Rho → SR
  | [], r => .nx r
  | d :: ds, r => match t d r with
    | .ok r1 => match F r1 with
      | .nx r2 => loopF t F ds r2
      | .ct r2 => loopF t F ds r2
      | .bk r2 => .nx r2
      | o => o
    | _ => .bad
def forF (its : Rho → Res (List D)) (t : D → Rho → Res Rho) (F : Rho → SR) : Rho → SR := fun r => liftS r (its r) fun ds => loopF t F ds r
theorem ds_for {iter : Expr} {body : List Stmt} {its : Rho → Res (List D)} {ks : List Nat} {t : D → Rho → Res Rho} {F : Rho → SR} (hg : Gok c G) (hp : PassesOwn (model X.prog X.w) X.A X.env X.xe) (hc : X.calm = true) (hi : PI X tg iter (iD c G its)) (ht : PG X tg (gD c G G' ks t)) (hb : PSs X body (sD c G G' G F))
    (hs : ∀ x, foldedSetIterable iter X.env x = pure x := by intro _; rfl) : PS X (.For tg iter body [] pos) (sD c L G G (forF its t F)) :=
  ps_imp (ps_for hp hc hi ht hb hs) fun E σ H ⟨S0, H0, S, r, ok, p⟩ => by
    refine ⟨S0, H0, S, r, ok, ?_⟩
    unfold forF at p
    cases hf : its r with
    | err n ns vs =>
      rw [hf] at p
      exact fun C dd S' H' fs h1 fw h2 h3 h4 => p C dd σ S' H' fs h1 (ok.fwd.trans fw) (fun g q => by rw [hg g q]; exact ok.go fw) h2 h3 h4
    | bad => rw [hf] at p; exact p.elim
    | ok ds =>
      rw [hf] at p
      intro S1 H1 w1 J ⟨Gd, Y, wk, hG, hY⟩
      have p : PostS c S0 H0 L G (loopF t F ds r) E := p
      refine for_it wk (fun i σ' H' => ∃ S' r', Ex S1 S' ∧ EnvOk c S0 H0 G S' H' σ' r' ∧ PostS c S0 H0 L G (loopF t F (ds.drop i) r') E) ⟨S1, r, Ex.refl, ok.go w1, by rw [List.drop_zero]; exact p⟩ ?_ ?_ ?_
      · rintro i σ' H' _ ⟨S', r', e1, ok', _⟩
        exact hG S' H' e1 ok'.ex ok'.fwd.h
      · rintro i x σ' H' H2 hi ⟨S', r', e1, ok', p'⟩ y
        obtain ⟨S2, d, fw, hd, hx⟩ := hY i S' H' x H2 hi e1 ok'.ex y
        have hdrop : ds.drop i = d :: ds.drop (i + 1) := by
          rw [List.drop_eq_getElem_cons hi]
          rw [List.getElem?_eq_getElem hi] at hd
          cases hd; rfl
        rw [hdrop] at p'
        unfold loopF at p'
        refine ⟨S0, H0, S2, r', d, ok'.go fw, hx, ?_⟩
        cases htt : t d r' with
        | err _ _ _ => rw [htt] at p'; exact p'.elim
        | bad => rw [htt] at p'; exact p'.elim
        | ok r1 =>
          rw [htt] at p'
          intro σ3 _ ok3
          refine ⟨S2, H0, S2, r1, ok3.rebase, ?_⟩
          dsimp only at p'
          have fin : ∀ σ4 S4 H4 r4, EnvOk c S2 H0 G S4 H4 σ4 r4 → PostS c S0 H0 L G (loopF t F (ds.drop (i + 1)) r4) E → ∃ S' r', Ex S1 S' ∧ EnvOk c S0 H0 G S' H4 σ4 r' ∧ PostS c S0 H0 L G (loopF t F (ds.drop (i + 1)) r') E := fun σ4 S4 H4 r4 e4 p4 =>
            ⟨S4, r4, (e1.trans fw.s).trans e4.fwd.s, e4.unbase ok3.fwd, p4⟩
          cases hF : F r1 with
          | nx r2 => rw [hF] at p'; exact fun σ4 S4 H4 e4 => fin σ4 S4 H4 r2 e4 p'
          | ct r2 => rw [hF] at p'; exact fun σ4 S4 H4 e4 => fin σ4 S4 H4 r2 e4 p'
          | bk r2 => rw [hF] at p'; exact fun σ4 S4 H4 e4 => p' σ4 S4 H4 (e4.unbase ok3.fwd)
          | rt d => rw [hF] at p'; exact PostS.rebase (c := c) (o := .rt d) (E := E) ok3.fwd p'
          | er r2 n ns vs => rw [hF] at p'; exact PostS.rebase (c := c) (o := .er r2 n ns vs) (E := E) ok3.fwd p'
          | bad => rw [hF] at p'; exact p'.elim
      · rintro σ' H' ⟨S', r', e1, ok', p'⟩
        rw [List.drop_length] at p'
        exact p' σ' S' H' ok'
end
end Dx
end S_DxE
section S_DxF
set_option Elab.async false
set_option linter.all false
set_option maxRecDepth 100000
set_option maxHeartbeats 2000000
namespace L2N
open PySem PySem.Spec PyProof.Rows L2
theorem passLN {X : Cx} : Passes (L2N.CX X.prog X.w) X E0 := by
  rintro _ _ _ _ _ _ _ ⟨_, _, _, _, _, _, _, _, _, _, _, _, z⟩
  exact z.elim
theorem _root_.L2.Fun.okN {P : Program} {w : World} {K : PySem.W.Frag} {mg : Str → Option Value} {base : Heap} {k : Nat} {f : Addr} {x qual : Str} {st : Stmt} {fd : FuncData} {N ps : List Str} {sp : Sp} (F : Fun K x qual st f fd) (S : FnScope N ps (defScope st))
    (len : ∀ vs H Q E, sp vs H Q E → vs.length = ps.length)
    (hb : ∀ (cdv : Value) (A : Around) (outer : List Env) (s : Shared) (H : Hp) (vs : List V) (Q : VK) (E : XK), Room k (A.deeper (envOfC qual (defScope st) s.heap.objs.size f cdv)) → sp vs H Q E →
      ∃ t, PSs (cxOf (L2N.CX P w) P w K mg base N qual (defScope st) f cdv A outer s H E) (defBody st) t ∧ t { nx := fun _ H' => Q .non H', rt := Q } (start N vs) H) :
    FnOk P w K mg base (L2N.CX P w) (k + 1) f fd ps sp := match F.ex with
  | ⟨_, _, _, _, _, _, cdv, _, _, h, lk, hcd⟩ => by
    subst h
    exact fn_of lk hcd S len fun A outer s H vs Q E hr hsp => hb cdv A outer s H vs Q E hr hsp
end L2N
namespace Dx
open PySem L2
def wipeR (r : Rho) : List Nat → Rho
  | [] => r
  | v :: vs => (wipeR r vs).set v none
theorem wipeR_len (r : Rho) : ∀ vs : List Nat, (wipeR r vs).length = r.length
  | [] => rfl
  | v :: vs => by show ((wipeR r vs).set v none).length = _; rw [List.length_set, wipeR_len r vs]
theorem wipeR_some {r : Rho} {i : Nat} {d : D} : ∀ {vs : List Nat}, (wipeR r vs)[i]? = some (some d) → r[i]? = some (some d) ∧ i ∉ vs
  | [], h => ⟨h, by simp⟩
  | v :: vs, h => by
    rcases set_some (l := wipeR r vs) h with ⟨_, e, _⟩ | ⟨ne, h⟩
    · cases e
    · obtain ⟨h1, h2⟩ := wipeR_some h
      exact ⟨h1, by simp [Ne.symm ne, h2]⟩
/-- within a comprehension nothing is raised -/
abbrev Cf.calm (c : Cf) : Cf := ⟨c.K, c.cm, fun _ _ _ _ => False, none, c.rm, c.tb⟩
section
variable {X : Cx} {c : Cf} {L G G' : List Ow} {σ : St} {S0 H0 S H : Hp} {r : Rho}
theorem EnvOk.wiped (e : EnvOk c S0 H0 G S H σ r) (vs : List Nat) : EnvOk c.calm S0 H0 G S H (wipe σ vs) (wipeR r vs) := by
  refine ⟨e.fwd, by rw [wipe_length, wipeR_len, e.len], fun i d h => ?_, fun i j d d' p hi hj ki kj si sj => ?_, let ⟨A, hA⟩ := e.sto; ⟨A, hA.sub (fun a ha => (hA.out a ha).1) (fun _ _ => rfl) Ex.refl (fun i d p hi ki si => hA.own i d p (wipeR_some hi).1 ki (wipe_some si).1) fun i d ki hi => ⟨rfl, (wipeR_some hi).1, by rw [wipe_get, if_neg (wipeR_some hi).2]⟩⟩⟩
  · obtain ⟨h1, h2⟩ := wipeR_some h
    obtain ⟨v, h3, h4⟩ := e.slot i d h1
    exact ⟨v, by rw [wipe_get, if_neg h2]; exact h3, h4⟩
  · exact e.sep i j d d' p (wipeR_some hi).1 (wipeR_some hj).1 ki kj (wipe_some si).1 (wipe_some sj).1
theorem Fwd.put {S' H' : Hp} {p : Addr} {o : HO} (f : Fwd S H S' H') (n : H p = none) (ns : S' p = none) (tk : Tk H' (upd H' p o)) : Fwd S H S' (upd H' p o) := ⟨f.s, f.h.put n, f.sub.put ns, f.new, f.tb.trans tk⟩
def lcLoop (t : D → Rho → Res Rho) (tt : Rho → Res Bool) (fe : Rho → Res D) (rw : Rho) : List D → Res (List D)
  | [] => .ok []
  | d :: ds => match t d rw with
    | .ok r1 => match tt r1 with
      | .ok true => match fe r1 with
        | .ok x => match lcLoop t tt fe rw ds with
          | .ok xs => .ok (x :: xs)
          | _ => .bad
        | _ => .bad
      | .ok false => lcLoop t tt fe rw ds
      | _ => .bad
    | _ => .bad
noncomputable def dLc (its : Rho → Res (List D)) (t : D → Rho → Res Rho) (tt : Rho → Res Bool) (fe : Rho → Res D) (vs : List Nat) : Rho → Res D := fun r => (its r).bind fun ds => guard (ds.length ≤ sizeLine) (match lcLoop t tt fe (wipeR r vs) ds with
  | .ok xs => .ok (.lst xs)
  | _ => .bad)
def dYes : Rho → Res Bool := fun _ => .ok true
/-- what is walked, as long as nothing that is there changes -/
def iDl (c : Cf) (G : List Ow) (f : Rho → Res (List D)) : TI := fun σ H R => ∃ S0 H0 S r, EnvOk c S0 H0 G S H σ r ∧ PostG c σ S H (f r) fun ds S' H' => ∀ J, Gives c H' S' J ds → R J H'
theorem pi_l {tg it : Expr} {f : Rho → Res (List D)} (h : PI X tg it (iD c G f)) : PI X tg it (iDl c G f) := pi_imp h fun σ H R ⟨S0, H0, S, r, ok, p⟩ => ⟨S0, H0, S, r, ok, p.imp fun ds S' H' fw hk J gv => hk J (let ⟨Gd, Y, h1, h2, h3⟩ := gv; ⟨Gd, Y, h1, fun S'' H'' e1 e2 e3 => h2 S'' H'' e1 e2 ((ok.fwd.h.trans fw.h).trans e3), h3⟩)⟩
theorem lc_rd {its : Rho → Res (List D)} {t : D → Rho → Res Rho} {tt : Rho → Res Bool} {fe : Rho → Res D} {vs : List Nat} : ∀ σ H Q, tO c G (dLc its t tt fe vs) σ H Q →
    tLc (iDl c G its) (gD c.calm G G' vs t) (tT c.calm G' tt) (tV c.calm G' fe) vs σ H Q := fun σ H Q ⟨S0, H0, S, r, ok, p⟩ => by
  refine ⟨S0, H0, S, r, ok, p.unbind.imp fun ds S1 H1 w1 p1 J gv Dl hD => ?_⟩
  obtain ⟨hl, p1⟩ := p1.gd
  obtain ⟨Gd, Y, wk, hG, hY⟩ := gv
  have ok1 := ok.go w1
  split at p1
  · rename_i res hres
    have okw := ok1.wiped vs
    have nS : S1 Dl = none := ok1.ex.nn hD
    refine lc_it wk (fun i H' => ∃ S' acc accD rest, Fwd S1 H1 S' H' ∧ S' Dl = none ∧ H' Dl = some (.lst acc) ∧ RpA c.K c.cm S' acc accD ∧ lcLoop t tt fe (wipeR r vs) (ds.drop i) = .ok rest ∧ accD ++ rest = res ∧ accD.length ≤ i)
      ⟨S1, [], [], res, Fwd.heap ok1.ex hD, nS, upd_same, .nil, by rw [List.drop_zero]; exact hres, rfl, Nat.le_refl _⟩ ?_ ?_ ?_
    · rintro i H' _ ⟨S', acc, accD, rest, fw, _⟩
      exact hG S' H' fw.s fw.sub fw.h
    · rintro i x H' H2 hi ⟨S', acc, accD, rest, fw, n1, h1, r1, hr, ha, hn⟩ y
      obtain ⟨S2, d, fw2, hd, hx⟩ := hY i S' H' x H2 hi fw.s fw.sub y
      have hdrop : ds.drop i = d :: ds.drop (i + 1) := by
        rw [List.drop_eq_getElem_cons hi]
        rw [List.getElem?_eq_getElem hi] at hd
        cases hd; rfl
      rw [hdrop] at hr
      unfold lcLoop at hr
      refine ⟨S0, H0, S2, wipeR r vs, d, okw.go (fw.trans fw2), hx, ?_⟩
      cases ht : t d (wipeR r vs) with
      | err _ _ _ => rw [ht] at hr; cases hr
      | bad => rw [ht] at hr; cases hr
      | ok r2 =>
        rw [ht] at hr
        dsimp only at hr
        intro σ3 z3 ok3
        have hz : L2.wipe (L2.wipe σ vs) vs = L2.wipe σ vs := by
          apply List.ext_getElem?
          intro k
          rw [wipe_get, wipe_get]
          split
          · cases σ[k]? <;> rfl
          · rfl
        have keepN : ∀ S4 H4, Fwd S' H' S4 H4 → S4 Dl = none := fun S4 H4 f4 => by
          cases q : S4 Dl with
          | none => rfl
          | some u => obtain ⟨_, z⟩ := (f4.new Dl u q n1).not h1; cases z
        refine ⟨z3.trans hz, S0, H0, S2, r2, ok3, ?_⟩
        cases htt : tt r2 with
        | err _ _ _ => rw [htt] at hr; cases hr
        | bad => rw [htt] at hr; cases hr
        | ok b =>
          rw [htt] at hr
          intro S4 H4 w4 b' hb
          cases hb
          have f4 := fw2.trans w4
          cases b with
          | false =>
            dsimp only at hr
            rw [if_neg (by decide)]
            exact ⟨S4, acc, accD, rest, fw.trans f4, keepN S4 H4 f4, f4.h _ _ h1, r1.mono f4.s, hr, ha, Nat.le_succ_of_le hn⟩
          | true =>
            dsimp only at hr
            rw [if_pos rfl]
            refine ⟨S0, H0, S4, r2, ok3.go w4, ?_⟩
            cases hfe : fe r2 with
            | err _ _ _ => rw [hfe] at hr; cases hr
            | bad => rw [hfe] at hr; cases hr
            | ok x2 =>
              rw [hfe] at hr
              dsimp only at hr
              cases hlc : lcLoop t tt fe (wipeR r vs) (ds.drop (i + 1)) with
              | err _ _ _ => rw [hlc] at hr; cases hr
              | bad => rw [hlc] at hr; cases hr
              | ok xs2 =>
                rw [hlc] at hr
                cases hr
                intro S5 H5 w5 y5 hy5
                have f5 := f4.trans w5
                refine ⟨acc, f5.h _ _ h1, ?_, S5, acc ++ [y5], accD ++ [x2], xs2, (fw.trans f5).put hD (keepN S5 H5 f5) (Tk.at (f5.h _ _ h1) .lst), keepN S5 H5 f5, upd_same, (r1.mono f5.s).app (.one hy5), rfl, ?_, ?_⟩
                · rw [r1.length]; omega
                · rw [← ha, List.append_assoc]; rfl
                · simp; omega
    · rintro H' ⟨S', acc, accD, rest, fw, n1, h1, r1, hr, ha, hn⟩
      rw [List.drop_length] at hr
      cases hr
      rw [List.append_nil] at ha
      subst ha
      exact p1 S' H' fw _ ⟨Dl, .lst acc, rfl, w1.h.nn hD, n1, h1, .lst r1⟩
  · exact p1.elim
theorem de_lc {elt tg iter : Expr} {ifs : List Expr} {scope : Scope} {own : List (Str × Nat)} {pos : Pos} {its : Rho → Res (List D)} {t : D → Rho → Res Rho} {tt : Rho → Res Bool} {fe : Rho → Res D} (hc : X.calm = true) (hN : X.N.Nodup) (hi : PI X tg iter (iD c G its)) (ok : BlkOk X.N X.env.scope scope own)
    (hg : ∀ (s : Shared) (H : Hp) (C : Addr) (cl : List (Str × Addr)) (fp : List Addr), PG (X.blk s H scope (compEnvC scope cl C X.env) fp) tg (gD c.calm G G' (own.map (·.2)) t)) (ht : ∀ (s : Shared) (H : Hp) (C : Addr) (cl : List (Str × Addr)) (fp : List Addr), PTs (X.blk s H scope (compEnvC scope cl C X.env) fp) ifs (tT c.calm G' tt))
    (he : ∀ (s : Shared) (H : Hp) (C : Addr) (cl : List (Str × Addr)) (fp : List Addr), PE (X.blk s H scope (compEnvC scope cl C X.env) fp) elt (tV c.calm G' fe)) (hs : ∀ x, foldedSetIterable iter X.env x = pure x := by intro _; rfl) :
    PE X (.ListComp elt [⟨tg, iter, ifs, 0⟩] scope pos) (tO c G (dLc its t tt fe (own.map (·.2)))) := pe_imp (pe_lc hc hN (pi_l hi) ok hg ht he hs) lc_rd
/-- name = [..] on one line, the name a local -/
theorem ds_setLc (i : Nat) {y : Str} {py : Pos} {elt tg iter : Expr} {ifs : List Expr} {scope : Scope} {own : List (Str × Nat)} {pos spos : Pos} {its : Rho → Res (List D)} {t : D → Rho → Res Rho} {tt : Rho → Res Bool} {fe : Rho → Res D} (hgk : Gok c G) (hG : i < G.length) (hc : X.calm = true) (hN : X.N.Nodup) (hy : X.N[i]? = some y) (hyl : X.env.scope.names.lookup y = some .local)
    (hsw : swapsWith (.ListComp elt [⟨tg, iter, ifs, 0⟩] scope pos) (some (.Name y py)) spos.line X.env = pure true) (hi : PI X tg iter (iD c G its)) (ok : BlkOk X.N X.env.scope scope own)
    (hg : ∀ (s : Shared) (H : Hp) (C : Addr) (cl : List (Str × Addr)) (fp : List Addr), PG (X.blk s H scope (compEnvC scope cl C X.env) fp) tg (gD c.calm G G' (own.map (·.2)) t)) (ht : ∀ (s : Shared) (H : Hp) (C : Addr) (cl : List (Str × Addr)) (fp : List Addr), PTs (X.blk s H scope (compEnvC scope cl C X.env) fp) ifs (tT c.calm G' tt))
    (he : ∀ (s : Shared) (H : Hp) (C : Addr) (cl : List (Str × Addr)) (fp : List Addr), PE (X.blk s H scope (compEnvC scope cl C X.env) fp) elt (tV c.calm G' fe)) (hs : ∀ x, foldedSetIterable iter X.env x = pure x := by intro _; rfl) :
    PS X (.Assign [.Name y py] (.ListComp elt [⟨tg, iter, ifs, 0⟩] scope pos) spos) (sD c L G (G.set i .o) (setF i (dLc its t tt fe (own.map (·.2))))) :=
  ps_imp (ps_setLc hc hN hy hyl hsw (pi_l hi) ok hg ht he hs) fun E σ H ⟨S0, H0, S, r, ok, p⟩ => lc_rd σ H _ (st_seq hgk ok p fun d v S1 H1 w1 o1 m1 p1 => by
    obtain ⟨q, ho, rfl, n, ns, hp, h⟩ := m1
    exact p1 _ S1 H1 (ok.setO w1 i hG n ns hp h))
theorem dt_nil : PTs X [] (tT c G dYes) := ⟨fun pins s σ H Q I ⟨S0, H0, S, r, ok, p⟩ => pts_nil.run pins s σ H Q I (p.go ok.ex _ rfl)⟩
end
/-- the mode of its result: own, or a value -/
def mR (c : Cf) (rm : Bool) : Md V D := if rm then mO c else mV c
instance {c : Cf} {rm : Bool} : Anti (mR c rm) := by
  cases rm with
  | true => exact (inferInstance : Anti (mO c))
  | false => exact (inferInstance : Anti (mV c))
/-- F by data; ms the arguments' modes; rm whether the result is a new object that nothing else holds -/
def spD (K : PySem.W.Frag) (cm : CM) (ms : List Bool) (rm : Bool) (F : List D → Res D) : Sp := fun vs H Q E => ∃ S ds, Ex S H ∧ RpM ⟨K, cm, fun _ _ _ _ => False, none, rm, fun _ _ => False⟩ S H ms vs ds ∧
  PostG ⟨K, cm, fun cls d _ H => E cls d H, none, rm, fun _ _ => False⟩ [] S H (F ds) fun a S' H' => ∀ b, mR ⟨K, cm, fun _ _ _ _ => False, none, rm, fun _ _ => False⟩ rm H S' H' b a → Q b H'
section
variable {X : Cx} {c : Cf} {L G G' : List Ow} {k : Nat} {f : Addr} {fd : FuncData} {ps : List Str} {x : Str} {p pos : Pos} {e : Expr} {es : List Expr} {fs : Rho → Res (List D)} {ms : List Bool} {rm : Bool} {F : List D → Res D}
theorem RpM.cf {c c' : Cf} {S H : Hp} (hK : c.K = c'.K) (hm : c.cm = c'.cm) : ∀ {ms : List Bool} {vs : List V} {ds : List D}, RpM c S H ms vs ds → RpM c' S H ms vs ds
  | [], [], [], _ => trivial
  | true :: ms, v :: vs, d :: ds, h => ⟨by rw [← hK, ← hm]; exact h.1, RpM.cf hK hm h.2⟩
  | false :: ms, v :: vs, d :: ds, h => ⟨by rw [← hK, ← hm]; exact h.1, RpM.cf hK hm h.2⟩
  | [], _ :: _, _, h => h.elim
  | [], [], _ :: _, h => h.elim
  | true :: _, [], _, h => h.elim
  | true :: _, _ :: _, [], h => h.elim
  | false :: _, [], _, h => h.elim
  | false :: _, _ :: _, [], h => h.elim
theorem call_rd {E : XK} {σ : St} {S H : Hp} {vs : List V} {ds : List D} {Q : VK} (hE : ∀ cls d H, c.W cls d σ H → E cls d H) (ex : Ex S H) (m : RpM c S H ms vs ds)
    (q : PostG c σ S H (F ds) fun a S' H' => ∀ b, mR c rm H S' H' b a → Q b H') : spD c.K c.cm ms rm F vs H Q E := by
  refine ⟨S, ds, ex, RpM.cf (c := c) (c' := ⟨c.K, c.cm, fun _ _ _ _ => False, none, rm, fun _ _ => False⟩) rfl rfl m, ?_⟩
  cases hF : F ds with
  | ok a =>
    rw [hF] at q
    intro S' H' w b hb
    refine q S' H' w b ?_
    cases rm with
    | true => exact hb
    | false => exact hb
  | err n ns vs => rw [hF] at q; exact fun C dd S' H' fs h1 w h2 h3 h4 => hE _ _ _ (q C dd S' H' fs h1 w h2 h3 h4)
  | bad => rw [hF] at q; exact q.elim
/-- f(e, ..), f a def of the text -/
theorem de_call (F1 : FnOk X.prog X.w X.K X.mg X.base (L2N.CX X.prog X.w) k f fd ps (spD c.K c.cm ms rm F)) (tk : L2N.Takes X c.W) (hr : Room k X.A) (hg : Gl X x) (hm : X.mg x = some (.ref f)) (hk : PySem.W.keepIn X.K (.ref f) = true) (hb : Binds X.K fd ps [])
    (ha : PA X (e :: es) (tM c G ms fs)) (hdb : (x == ("__debug__" : Str)) = false := by decide) (he : starEach (e :: es) X.env = (false, eval e X.env) :: starEach es X.env := by rfl) (hpl : (backTo pos (starEach es X.env)).any (·.1) = false := by rfl) :
    PE X (.Call (.Name x p) (e :: es) [] pos) (rd c G (dCall F fs) (mR c rm)) :=
  pe_imp (pe_callSD (E := fun σ cls d H => c.W cls d σ H) F1 hr hg hm hk hb .nil (fun σ => L2N.passAt tk σ) ha hdb he hpl) fun σ H Q ⟨S0, H0, S, r, ok, q⟩ => rd_seq ok q fun ds vs S1 H1 w1 o1 m1 p1 => by
    rw [List.append_nil]
    exact call_rd (fun _ _ _ h => h) o1.ex m1 (p1.anti w1.h)
theorem de_callV (F1 : FnOk X.prog X.w X.K X.mg X.base (L2N.CX X.prog X.w) k f fd ps (spD c.K c.cm ms false F)) (tk : L2N.Takes X c.W) (hr : Room k X.A) (hg : Gl X x) (hm : X.mg x = some (.ref f)) (hk : PySem.W.keepIn X.K (.ref f) = true) (hb : Binds X.K fd ps [])
    (ha : PA X (e :: es) (tM c G ms fs)) (hdb : (x == ("__debug__" : Str)) = false := by decide) (he : starEach (e :: es) X.env = (false, eval e X.env) :: starEach es X.env := by rfl) (hpl : (backTo pos (starEach es X.env)).any (·.1) = false := by rfl) :
    PE X (.Call (.Name x p) (e :: es) [] pos) (tV c G (dCall F fs)) := de_call F1 tk hr hg hm hk hb ha hdb he hpl
def startR (n : Nat) (ds : List D) : Rho := ds.map some ++ List.replicate (n - ds.length) none
def G0 (ms : List Bool) (n : Nat) : List Ow := ms.map (fun m => if m then .b else .v) ++ List.replicate (n - ms.length) .v
def runF (n : Nat) (rm : Bool) (Fb : Rho → SR) (ds : List D) : Res D := match Fb (startR n ds) with
  | .rt d => .ok d
  | .nx _ => if rm then .bad else .ok .non
  | .er _ n ns vs => .err n ns vs
  | _ => .bad
theorem RpM.get {S H : Hp} : ∀ {ms : List Bool} {vs : List V} {ds : List D} {i : Nat} {d : D}, RpM c S H ms vs ds → ds[i]? = some d → ∃ v m, vs[i]? = some v ∧ ms[i]? = some m ∧ SlotOk c H S H (if m then .b else .v) v d
  | [], [], [], _, _, _, h => by simp at h
  | true :: ms, v :: vs, d :: ds, 0, e, h, q => by simp at q; subst q; exact ⟨v, true, by simp, by simp, h.1⟩
  | false :: ms, v :: vs, d :: ds, 0, e, h, q => by simp at q; subst q; exact ⟨v, false, by simp, by simp, h.1⟩
  | true :: ms, v :: vs, d :: ds, i + 1, e, h, q => by
    obtain ⟨v, m, h1, h2, h3⟩ := RpM.get (i := i) h.2 (by simpa using q)
    exact ⟨v, m, by simpa using h1, by simpa using h2, h3⟩
  | false :: ms, v :: vs, d :: ds, i + 1, e, h, q => by
    obtain ⟨v, m, h1, h2, h3⟩ := RpM.get (i := i) h.2 (by simpa using q)
    exact ⟨v, m, by simpa using h1, by simpa using h2, h3⟩
  | [], _ :: _, _, _, _, h, _ => h.elim
  | [], [], _ :: _, _, _, h, _ => h.elim
  | true :: _, [], _, _, _, h, _ => h.elim
  | true :: _, _ :: _, [], _, _, h, _ => h.elim
  | false :: _, [], _, _, _, h, _ => h.elim
  | false :: _, _ :: _, [], _, _, h, _ => h.elim
theorem RpM.len {S H : Hp} : ∀ {ms : List Bool} {vs : List V} {ds : List D}, RpM c S H ms vs ds → vs.length = ms.length ∧ ds.length = ms.length
  | [], [], [], _ => ⟨rfl, rfl⟩
  | true :: ms, v :: vs, d :: ds, h => by have := RpM.len h.2; simp [this.1, this.2]
  | false :: ms, v :: vs, d :: ds, h => by have := RpM.len h.2; simp [this.1, this.2]
  | [], _ :: _, _, h => h.elim
  | [], [], _ :: _, h => h.elim
  | true :: _, [], _, h => h.elim
  | true :: _, _ :: _, [], h => h.elim
  | false :: _, [], _, h => h.elim
  | false :: _, _ :: _, [], h => h.elim
theorem kd_G0 {ms : List Bool} {n i : Nat} : ¬ isO (kd (G0 ms n) i) := by
  unfold kd G0
  rw [List.getD_eq_getElem?_getD, List.getElem?_append]
  split
  · rw [List.getElem?_map]
    cases ms[i]? with
    | none => intro h; cases h
    | some m => cases m <;> (intro h; cases h)
  · rw [List.getElem?_replicate]
    split <;> (intro h; cases h)
theorem kd_G0_sw {ms : List Bool} {n i : Nat} : (∀ P, kd (G0 ms n) i ≠ .s P) ∧ kd (G0 ms n) i ≠ .w := by
  unfold kd G0
  rw [List.getD_eq_getElem?_getD, List.getElem?_append]
  split
  · rw [List.getElem?_map]
    cases ms[i]? with
    | none => exact ⟨fun _ h => (by cases h), fun h => (by cases h)⟩
    | some m => cases m <;> exact ⟨fun _ h => (by cases h), fun h => (by cases h)⟩
  · rw [List.getElem?_replicate]
    split <;> exact ⟨fun _ h => (by cases h), fun h => (by cases h)⟩
theorem kd_G0_at {ms : List Bool} {n i : Nat} {m : Bool} (h : ms[i]? = some m) : kd (G0 ms n) i = if m then .b else .v := by
  unfold kd G0
  have hl : i < ms.length := (List.getElem?_eq_some_iff.mp h).1
  rw [List.getD_eq_getElem?_getD, List.getElem?_append, if_pos (by simpa using hl), List.getElem?_map, h]
  rfl
theorem startR_some {n i : Nat} {ds : List D} {d : D} (h : (startR n ds)[i]? = some (some d)) : ds[i]? = some d := by
  unfold startR at h
  rw [List.getElem?_append] at h
  split at h
  · rw [List.getElem?_map] at h
    cases q : ds[i]? with
    | none => rw [q] at h; cases h
    | some e => rw [q] at h; cases h; rfl
  · rw [List.getElem?_replicate] at h
    split at h <;> cases h
theorem env_start {N : List Str} {S H : Hp} {vs : List V} {ds : List D} (ex : Ex S H) (m : RpM c S H ms vs ds) (hn : ms.length ≤ N.length) (ht : ∀ P q, c.tb P q → LamX.TabS H P q := by intro _ _ z; exact False.elim z) : EnvOk c S H (G0 ms N.length) S H (L2.start N vs) (startR N.length ds) := by
  have hl := m.len
  refine ⟨Fwd.refl ex, by unfold L2.start startR; simp [hl.1, hl.2], fun i d h => ?_, fun i j d e p _ _ k _ _ _ => absurd k kd_G0, ⟨[], .nil (fun _ _ _ => kd_G0_sw) ht⟩⟩
  have hd := startR_some h
  obtain ⟨v, mm, h1, h2, h3⟩ := m.get hd
  refine ⟨v, ?_, by rw [kd_G0_at h2]; exact h3⟩
  unfold L2.start
  have hlt : i < vs.length := (List.getElem?_eq_some_iff.mp h1).1
  rw [List.getElem?_append, if_pos (by simpa using hlt), List.getElem?_map, h1]
  rfl
end
section
variable {P : Program} {w : World} {K : PySem.W.Frag} {mg : Str → Option Value} {base : Heap} {cm : CM}
abbrev cfE (K : PySem.W.Frag) (cm : CM) (rm : Bool) (E : XK) : Cf := ⟨K, cm, fun cls d _ H => E cls d H, none, rm, fun _ _ => False⟩
/-- THE RULE for a def: its body by data -/
theorem dok {x qual : Str} {st : Stmt} {f : Addr} {fd : FuncData} {N ps : List Str} {k : Nat} {ms : List Bool} {rm : Bool} {G' : List Ow} {Fb : Rho → SR} (F : Fun K x qual st f fd) (S : FnScope N ps (defScope st)) (hm : ms.length = ps.length) (hn : ps.length ≤ N.length)
    (hb : ∀ (cdv : Value) (A : Around) (outer : List Env) (s : Shared) (H : Hp) (E : XK), Room k (A.deeper (PyProof.Rows.envOfC qual (defScope st) s.heap.objs.size f cdv)) →
      PSs (cxOf (L2N.CX P w) P w K mg base N qual (defScope st) f cdv A outer s H E) (defBody st) (sD (cfE K cm rm E) [] (G0 ms N.length) G' Fb)) :
    FnOk P w K mg base (L2N.CX P w) (k + 1) f fd ps (spD K cm ms rm (runF N.length rm Fb)) := by
  refine F.okN S (fun vs H Q E h => ?_) (fun cdv A outer s H vs Q E hr h => ?_)
  · obtain ⟨S, ds, _, m, _⟩ := h
    rw [m.len.1, hm]
  · obtain ⟨S, ds, ex, m, q⟩ := h
    refine ⟨_, hb cdv A outer s H E hr, S, H, S, startR N.length ds, env_start ex (RpM.cf (c := ⟨K, cm, fun _ _ _ _ => False, none, rm, fun _ _ => False⟩) (c' := cfE K cm rm E) rfl rfl m) (by omega), ?_⟩
    unfold runF at q
    cases hF : Fb (startR N.length ds) with
    | rt d =>
      rw [hF] at q
      show PostS _ _ _ _ _ (.rt d) _
      unfold PostS
      dsimp only
      cases rm with
      | true => exact fun p ho S' H' fw n ns hp hh => q S' H' fw _ ⟨p, ho, rfl, n, ns, hp, hh⟩
      | false => exact fun v S' H' fw hv => q S' H' fw v hv
    | nx r =>
      rw [hF] at q
      cases rm with
      | true => exact q.elim
      | false => exact fun σ' S' H' ok => q S' H' ok.fwd _ Rp.non
    | er r n ns vs =>
      rw [hF] at q
      exact fun C dd σ' S' H' fs h1 fw _ h2 h3 h4 => q C dd S' H' fs h1 fw h2 h3 h4
    | bk r => rw [hF] at q; exact q.elim
    | ct r => rw [hF] at q; exact q.elim
    | bad => rw [hF] at q; exact q.elim
end
end Dx
end S_DxF
section S_DxG
set_option Elab.async false
set_option linter.all false
set_option maxRecDepth 100000
set_option maxHeartbeats 2000000
namespace L2N
open PySem PySem.Spec PyProof.Rows L2
/-- C(e, ..), C an own exception class; the made object's context is None -/
theorem pmk_oexN {X : Cx} {CX : CXT} {e : Expr} {es : List Expr} {ta : TA} {p pos : Pos} {x : Str} {C fI : Addr} {k : Nat} {fd : FuncData} {ps : List Str} {sp : Sp} {ds : List Value} {dvs : List V} (T : OexC X.K C)
    (iC : PySem.W.findIn X.K (.ref C) "__init__" = some (some (.ref fI))) (tI : PySem.W.typeIn X.K (.ref fI) = some (.type "function")) (F1 : FnOk X.prog X.w X.K X.mg X.base CX k fI fd ps sp) (hr : Room (k + 1) X.A)
    (hb : Binds X.K fd ps ds) (hd : Vals dvs ds) (hx : Passes CX X (fun _ _ _ => False)) (hg : Gl X x) (hm : X.mg x = some (.ref C)) (ha : PA X (e :: es) ta) (hdb : (x == ("__debug__" : Str)) = false := by decide)
    (he : starEach (e :: es) X.env = (false, eval e X.env) :: starEach es X.env := by rfl) (hpl : (backTo pos (starEach es X.env)).any (·.1) = false := by rfl) :
    PMk X (.Call (.Name x p) (e :: es) [] pos) (tMkO C sp dvs ta) := by
  intro pins s σ H Q I h
  obtain ⟨nm, q, N, bs, bm, sn, sub, ab, col, dd, k0, k1, k2, k3, k5, hC, hbm⟩ := T.cls
  refine wpAny_Call_Name_kw (ld_glob I hg hm (PySem.W.callWith_K (h₀ := X.base) I.ok.mod.kin T.kC (thn (ha.run pos pins s σ H _ I h) ?_) he hpl) hdb)
  rintro us ⟨hp, g, dr, tk, os⟩ ⟨vs, H1, I1, r1, hz, q1⟩
  refine ⟨I1.kIn, ?_⟩
  show wpAny _ _ (call (.ref C) us) _ _ _
  have hsz : hp.objs.size ≤ hp.objs.size + 1 := Nat.le_succ _
  have hq := q1 (hp.objs.size + 1) (I1.hok.fresh hsz)
  have kk : ∀ b o, hp.get? b = some o → ((hp.push (PySem.W.kdv_tup us)).push (PySem.HandSPX.excO C hp.objs.size)).get? b = some o := fun b o z =>
    Heap.get?_push_of_some _ (Heap.get?_push_of_some _ z)
  have I2 : Inv X pins σ (upd H1 (hp.objs.size + 1) (exo (hp.objs.size + 1) C none)) ⟨(hp.push (PySem.W.kdv_tup us)).push (PySem.HandSPX.excO C hp.objs.size), g, dr, tk, os⟩ :=
    I1.laid (t' := tk) (a := hp.objs.size + 1) kk hsz (exo_ok (by heap_get))
  have r2 : Vals (V.ref (hp.objs.size + 1) :: (vs ++ dvs)) (Value.ref (hp.objs.size + 1) :: (us ++ ds)) := .cons rfl (r1.append hd)
  have hl : (Value.ref (hp.objs.size + 1) :: us ++ ds).length = ps.length := (r2.length.symm.trans (F1.len _ _ _ _ hq))
  have hus : us.length ≤ sizeLine := by
    have z := Paired.length r1
    rw [sizeLine_eq]; omega
  refine wpAny_call (PySem.HandSPX.call_own F.excBase_ValueError (fun Y => PySem.HandSPX.refsVE_contains Y bm hbm) (I1.kIn _ _ hC) (PySem.W.looks_findIn I1.kIn iC) (fun self => PySem.W.bind_fn I1.kIn self tI) hus (codeAny_mono (F1.run _ X.stack _ _
    ⟨Value.ref (hp.objs.size + 1) :: us, []⟩ _ _ _ (fun _ _ _ => False) (hr.make C us []) (I2.env0.make C us []) (hb _ (Value.ref (hp.objs.size + 1) :: us) I2.kIn hl) r2 hq) fun r s' hq' => ?_))
  match r, hq' with
  | .error er, z => exact hx pins σ _ _ er s' I2 z
  | .ok (.ret u), z =>
    obtain ⟨h2, g2, d2, t2, os'⟩ := s'
    obtain ⟨v, H2, os2, bare2, un2, hok2, rv, rfl, d, fs, ea, ed, hd1, q2⟩ := z
    obtain ⟨t0, G, J, kG, ge, hoe, na⟩ := mk_end0 (d2 := d2) (t2 := t2) I1 hsz kk un2 hok2 os2 bare2 ea ed hd1
    exact ⟨rv, ⟨hp.objs.size + 1, _, _, ⟨G, g2, d2, t2, os'⟩, _, .ref C, some d, rfl, J, kG, ge, hoe, ⟨rfl, rfl, fun vs hv => by cases hv; rfl⟩, rfl, rfl, na, rfl, bare2, raises_own T.exC T.tyC, q2⟩⟩
  | .ok .next, z => exact z.elim
  | .ok .brk, z => exact z.elim
  | .ok .cont, z => exact z.elim
end L2N
namespace Dx
open PySem L2
section
variable {X : Cx} {c : Cf} {L G G' : List Ow}
def spX1 (K : PySem.W.Frag) (C : Addr) (f : Str) : Sp := fun vs H Q _ => ∃ (a : Addr) (w : V), vs = [.ref a, w] ∧ OexC K C ∧ PySem.W.findIn K (.ref C) f = some none ∧ H a = some (exo a C none) ∧
  ∀ d, H d = none → d ≠ a → Q .non (upd (upd H d (exd d [(f, w)])) a (exo a C (some d)))
theorem xinit1 {P : Program} {w : World} {K : PySem.W.Frag} {mg : Str → Option Value} {base : Heap} {qual : Str} {st : Stmt} {fI C : Addr} {fd : FuncData} {N ps : List Str} {fl : Str} (F : Fun K "__init__" qual st fI fd) (S : FnScope N ps (defScope st)) (hl : ps.length = 2) (hN : N.length = 2)
    (hb : ∀ (cdv : Value) (A : Around) (outer : List Env) (s : Shared) (H : Hp) (E : XK), PSs (cxOf (L2N.CX P w) P w K mg base N qual (defScope st) fI cdv A outer s H E) (defBody st) (tOst K fl (tVar 0) (tVar 1))) :
    FnOk P w K mg base (L2N.CX P w) 1 fI fd ps (spX1 K C fl) := by
  refine F.okN (k := 0) S (fun vs H Q E h => ?_) (fun cdv A outer s H vs Q E hr h => ?_)
  · obtain ⟨a, w, rfl, _⟩ := h; exact hl.symm
  · obtain ⟨a, w', rfl, T, hno, ha, q⟩ := h
    refine ⟨_, hb cdv A outer s H E, ?_⟩
    have e : L2.start N [.ref a, w'] = [some (.ref a), some w'] := by unfold L2.start; rw [hN]; rfl
    rw [e]
    exact ⟨w', rfl, .ref a, rfl, a, C, rfl, T, hno, .inl ⟨ha, q⟩⟩
def raiF (n : Str) (ns : List Str) (rev : Bool) (fs : Rho → Res (List D)) : Rho → SR := fun r => liftS r (fs r) fun ds => if ds.length = ns.length then .er r n ns (if rev then ds.reverse else ds) else .bad
variable {e e2 : Expr} {fs : Rho → Res (List D)} {x n : Str} {C fI : Addr} {fd : FuncData} {ps : List Str} {p p' pos : Pos} {fl gl : Str}
theorem heap_x1 {H1 : Hp} {a d C : Addr} {o1 o2 o3 o4 o : HO} (ha : H1 a = none) (hne : d ≠ a) : upd (del (upd (upd (upd H1 a o1) d o2) a o3) a) d o = upd H1 d o := by
  funext b
  by_cases hb : b = d
  · subst hb; rw [upd_same, upd_same]
  · rw [upd_ne hb, upd_ne hb]
    by_cases hba : b = a
    · subst hba; rw [del_same, ha]
    · rw [del_ne hba, upd_ne hba, upd_ne hb, upd_ne hba]
theorem ds_raise1 (hg : Gok c G) (hcn : c.cm n = some C) (hc : X.calm = true) (tk : L2N.Takes X c.W) (T : OexC X.K C) (iC : PySem.W.findIn X.K (.ref C) "__init__" = some (some (.ref fI))) (tI : PySem.W.typeIn X.K (.ref fI) = some (.type "function")) (hno : PySem.W.findIn X.K (.ref C) fl = some none)
    (F1 : FnOk X.prog X.w X.K X.mg X.base (L2N.CX X.prog X.w) 1 fI fd ps (spX1 X.K C fl)) (hr : Room 2 X.A) (hb : Binds X.K fd ps []) (hgx : Gl X x) (hm : X.mg x = some (.ref C)) (ha : PA X [e] (tAs c G fs))
    (hdb : (x == ("__debug__" : Str)) = false := by decide) (he : starEach [e] X.env = (false, eval e X.env) :: starEach [] X.env := by rfl) :
    PS X (.Raise (some (.Call (.Name x p) [e] [] p')) none pos) (sD c L G G' (raiF n [fl] false fs)) :=
  ps_imp (L2N.ps_raise hc tk (L2N.pmk_oexN T iC tI F1 hr hb .nil L2N.passLN hgx hm ha hdb he rfl)) fun E σ H ⟨S0, H0, S, r, ok, q⟩ => st_seq hg ok q fun ds vs S1 H1 w1 o1 m1 p1 => by
    obtain ⟨hl, p1⟩ := p1.ite
    match ds, vs, m1, hl with
    | [d1], [v1], .cons hv .nil, _ =>
      refine ⟨by show 1 ≤ 1000; decide, fun a na => ⟨a, v1, rfl, T, hno, upd_same, fun d hd hne => ⟨rfl, d, [(fl, v1)], upd_same, by rw [upd_ne hne, upd_same], by rw [upd_ne hne] at hd; exact hd, ?_⟩⟩⟩
      rw [upd_ne hne] at hd
      rw [heap_x1 (C := C) (o4 := .lst []) na hne]
      exact p1 C d σ (upd S1 d (.xd [(fl, v1)])) _ [(fl, v1)] hcn (o1.fwd.trans (Fwd.both o1.ex hd)) (fun g hgg => by rw [hg g hgg]; exact o1.go (Fwd.both o1.ex hd)) upd_same rfl (.cons (hv.mono (Ex.new (o1.ex.nn hd))) .nil)
/-- the kinds told ahead; what they are is the same whatever the wishes -/
theorem EnvOk.cf {c' : Cf} {S0 H0 S H : Hp} {σ : St} {r : Rho} (e : EnvOk c S0 H0 G S H σ r) (hK : c'.K = c.K) (hcm : c'.cm = c.cm) (htb : c'.tb = c.tb := by rfl) : EnvOk c' S0 H0 G S H σ r := by
  refine ⟨e.fwd, e.len, fun j d h => ?_, e.sep, by rw [hK, hcm, htb]; exact e.sto⟩
  obtain ⟨v, q1, q2⟩ := e.slot j d h
  refine ⟨v, q1, ?_⟩
  cases kj : kd G j with
  | v => rw [kj] at q2; unfold SlotOk at q2 ⊢; rw [hK, hcm]; exact q2
  | o => rw [kj] at q2; unfold SlotOk at q2 ⊢; rw [hK, hcm]; exact q2
  | b => rw [kj] at q2; unfold SlotOk at q2 ⊢; rw [hK, hcm]; exact q2
  | s P => rw [kj] at q2; exact q2
  | w => rw [kj] at q2; exact q2
  | j a0 fs0 => rw [kj] at q2; unfold SlotOk at q2 ⊢; rw [hcm]; exact q2
  | x a C dd => rw [kj] at q2; unfold SlotOk at q2 ⊢; rw [hK, hcm]; exact q2
  | i a => rw [kj] at q2; unfold SlotOk at q2 ⊢; rw [hK, hcm]; exact q2
def lookF (ns : List Str) (vs : List D) (f : Str) : Option D := (ns.zip vs).lookup f
theorem look_rp {K : PySem.W.Frag} {cm : CM} {S : Hp} {f : Str} {d : D} : ∀ {fs : List (Str × V)} {vs : List D}, RpA K cm S (fs.map (·.2)) vs → lookF (fs.map (·.1)) vs f = some d → ∃ v, fs.lookup f = some v ∧ Rp K cm S v d
  | [], vs, h, q => by cases h; cases q
  | (g, u) :: fs, _, h, q => by
    cases h with | @cons _ _ d' ds hu hr =>
    unfold lookF at q
    rw [List.map_cons, List.zip_cons_cons, List.lookup_cons] at q
    rw [List.lookup_cons]
    by_cases hfg : (f == g) = true
    · rw [hfg] at q ⊢; cases q; exact ⟨u, rfl, hu⟩
    · have : (f == g) = false := by simpa using hfg
      rw [this] at q ⊢
      exact look_rp hr q
end
end Dx
end S_DxG
section S_DxT
set_option Elab.async false
set_option linter.all false
set_option maxRecDepth 100000
set_option maxHeartbeats 2000000
namespace Dx
open PySem L2
theorem gok0 {K : PySem.W.Frag} {cm : CM} {rm : Bool} {E : XK} {G : List Ow} : Gok (cfE K cm rm E) G := fun _ h => nomatch h
theorem hu65 {k : Nat} {A : Around} (hr : Room k A) : A.units + 65 < cLine := by have := hr.un; omega
theorem fnok_bad {P : Program} {w : World} {K : PySem.W.Frag} {mg : Str → Option Value} {base : Heap} {CX : CXT} {k : Nat} {f : Addr} {fd : FuncData} {ps : List Str} {cm : CM} {ms : List Bool} {rm : Bool} : FnOk P w K mg base CX k f fd ps (spD K cm ms rm fun _ => .bad) :=
  ⟨fun _ _ _ _ ⟨_, _, _, _, h⟩ => h.elim, fun _ _ _ _ _ _ _ _ _ _ _ _ _ ⟨_, _, _, _, h⟩ => h.elim⟩
theorem ints_rp {K : PySem.W.Frag} {cm : CM} {S : Hp} : ∀ ns : List Int, RpA K cm S (ns.map V.int) (ns.map D.int)
  | [] => .nil
  | n :: ns => .cons (.int n) (ints_rp ns)
theorem law_sp {K : PySem.W.Frag} {cm : CM} {F : List D → Res D} {ns : List Int} {H : Hp} {a : Addr} {Q : VK} {E : XK} (h : F [.fz (ns.map D.int)] = .ok (.bl true)) (hS : SqL K H a (ns.map V.int)) (k : ∀ H', Q (.bl true) H') : spD K cm [false] false F [.ref a] H Q E :=
  ⟨H, [.fz (ns.map D.int)], Ex.refl, ⟨.fz hS (ints_rp ns), trivial⟩, by
    rw [h]
    intro S' H' w b hb
    cases hb
    exact k H'⟩
theorem cx_never {P : Program} {w : World} {outer : List Env} {H : Hp} {s s' : Shared} {e : Value} (h : L2N.CX P w outer H s (fun _ _ _ => False) e s') : False := by
  obtain ⟨_, _, _, _, _, _, _, _, _, _, _, _, hf⟩ := h
  exact hf
section
variable {X : Cx} {c : Cf} {L G G' : List Ow} {f f1 f2 : Rho → Res D} {o e : Expr} {pos apos : Pos}
def asS : D → Res Str
  | .str s => .ok s
  | _ => .bad
def MtS (c : Cf) (R : Md V D) (r : V → List V → Hp → VK → Prop) (g : D → D → Res D) : Prop := ∀ (σ : St) (S H : Hp) (x y : V) (d e : D) (Q : VK), Ex S H → RpB c.K c.cm S H x d → RpB c.K c.cm S H y e →
  PostG c σ S H (g d e) (fun a S' H' => ∀ b, R H S' H' b a → Q b H') → r x [y] H Q
def dStr (g : D → D → Res D) (f1 f2 : Rho → Res D) : Rho → Res D := fun r => (f1 r).bind fun x => (asS x).bind fun _ => (f2 r).bind fun y => g x y
theorem de_m1 {R : Md V D} [Anti R] {id : String} {name : Str} {r : V → List V → Hp → VK → Prop} {g : D → D → Res D} (slot : Slot "str" name id) (ty : typeOf (.builtin id) = pure (.type "method_descriptor")) (rule : MtR X id r) (hs : MtS c R r g) (ho : PE X o (tR c G f1)) (he : PE X e (tR c G f2))
    (hst : starEach [e] X.env = [(false, eval e X.env)] := by rfl) (hbase : attributeBase o name X.env (eval o X.env) = eval o X.env := by rfl) (hline : (apos.endLine == pos.line) = true := by rfl) :
    PE X (.Call (.Attribute o name apos) [e] [] pos) (rd c G (dStr g f1 f2) R) := pe_imp (pe_m1 slot ty rule ho he hst hbase hline) fun σ H Q ⟨S0, H0, S, r, ok, p⟩ => rd_seq ok p fun x v S1 H1 w1 o1 m1 p1 => by
  cases x with
  | str z =>
    have hv := RpB.str m1
    exact ⟨⟨z, hv⟩, rd_seq o1 (show PostG c σ S1 H1 ((f2 r).bind fun y => g (.str z) y) _ from p1) fun y u S2 H2 w2 o2 m2 p2 => hs σ S2 H2 v u (.str z) y Q o2.ex (RpB.mono m1 w2.s w2.h) m2 (p2.anti (w1.h.trans w2.h))⟩
  | _ => exact p1.elim
def strsD (zs : List Str) : List D := zs.map .str
noncomputable def splitD : D → D → Res D
  | .str a, .str b => guard ((b.length == 0) = false ∧ a.length + 2 ≤ sizeLine) (.ok (.lst (strsD (Txt.split a b))))
  | _, _ => .bad
def startD : D → D → Res D
  | .str a, .str b => .ok (.bl (Txt.startswith a b))
  | _, _ => .bad
def endD : D → D → Res D
  | .str a, .str b => .ok (.bl (Txt.endswith a b))
  | _, _ => .bad
/-- the texts of a list or a tuple -/
def allStr : List D → Option (List Str)
  | [] => some []
  | .str z :: ds => (allStr ds).map (z :: ·)
  | _ :: _ => none
theorem allStr_rp {K : PySem.W.Frag} {cm : CM} {S : Hp} : ∀ {ds : List D} {vs : List V} {zs : List Str}, RpA K cm S vs ds → allStr ds = some zs → vs = zs.map V.str
  | [], _, _, h, q => by cases h; cases q; rfl
  | d :: ds, _, _, h, q => by
    cases h with | cons hd hr =>
    cases d with
    | str z =>
      rw [allStr] at q
      obtain ⟨zs, h1, rfl⟩ := Option.map_eq_some_iff.mp q
      cases hd
      rw [allStr_rp hr h1]; rfl
    | _ => cases q
noncomputable def joinZ (a : Str) : Option (List Str) → Res D
  | some zs => guard ((zs.map (·.length)).sum + zs.length * a.length ≤ 16777216) (.ok (.str (Txt.join a zs)))
  | none => .bad
noncomputable def joinD : D → D → Res D
  | .str a, d => (items d).bind fun ds => joinZ a (allStr ds)
  | _, _ => .bad
theorem ms_join (hK : c.K = X.K := by rfl) : MtS c (mV c) (fun x xs H Q => ∃ a p, ∃ ys : List Str, x = .str a ∧ xs = [.ref p] ∧ (SqL X.K H p (ys.map V.str) ∨ SqT X.K H p (ys.map V.str)) ∧
    (ys.map (·.length)).sum + ys.length * a.length ≤ 16777216 ∧ Q (.str (Txt.join a ys)) H) joinD := by
  intro σ S H x y d e Q ex hx hy p
  cases d with
  | str a =>
    cases hx.str
    have fin : ∀ ds, items e = .ok ds → ∃ zs, allStr ds = some zs ∧ (zs.map (·.length)).sum + zs.length * a.length ≤ 16777216 ∧ Q (.str (Txt.join a zs)) H := fun ds hds => by
      replace p : PostG c σ S H ((items e).bind fun ds => joinZ a (allStr ds)) (fun a S' H' => ∀ b, mV c H S' H' b a → Q b H') := p
      rw [hds] at p
      replace p : PostG c σ S H (joinZ a (allStr ds)) (fun a S' H' => ∀ b, mV c H S' H' b a → Q b H') := p
      cases hz : allStr ds with
      | none => rw [hz] at p; exact p.elim
      | some zs =>
        rw [hz] at p
        obtain ⟨hl, p⟩ := p.gd
        exact ⟨zs, rfl, hl, p.here ex (.str _)⟩
    rw [← hK]
    cases e with
    | lst ds =>
      obtain ⟨q, xs, rfl, a1, r1⟩ := hy.list ex
      obtain ⟨zs, h1, h2, h3⟩ := fin ds rfl
      have := allStr_rp r1 h1; subst this
      exact ⟨a, q, zs, rfl, rfl, .inl (.inl (.inl a1)), h2, h3⟩
    | fz ds =>
      obtain ⟨q, xs, rfl, a1, r1⟩ := hy.fz ex
      obtain ⟨zs, h1, h2, h3⟩ := fin ds rfl
      have := allStr_rp r1 h1; subst this
      exact ⟨a, q, zs, rfl, rfl, .inl a1, h2, h3⟩
    | tup ds =>
      obtain ⟨q, xs, rfl, a1, r1, s1⟩ := hy.tup ex
      obtain ⟨zs, h1, h2, h3⟩ := fin ds rfl
      have := allStr_rp r1 h1; subst this
      exact ⟨a, q, zs, rfl, rfl, .inr a1, h2, h3⟩
    | _ => exact p.elim
  | _ => exact p.elim
noncomputable def ordX : D → Res D
  | .str x => guard (x.length = 1) (.ok (.int (x.cps.getD 0 0 : Nat)))
  | _ => .bad
noncomputable def fmtD : D → Res D
  | .str y => guard (y.length ≤ sizeLine) (.ok (.str y))
  | .int i => guard (i.natAbs.log2 < 1920) (.ok (.str (toString i)))
  | _ => .bad
def dJnil : Str → Rho → Res D := fun acc _ => .ok (.str acc)
noncomputable def dJcons (f : Rho → Res D) (g : Str → Rho → Res D) : Str → Rho → Res D := fun acc r => (f r).bind fun d => (asS d).bind fun y => guard ((acc ++ y).length ≤ sizeLine) (g (acc ++ y) r)
def dJoin (g : Str → Rho → Res D) : Rho → Res D := g Str.empty
noncomputable def truB : D → Res Bool
  | .non => .ok false
  | .bl b => .ok b
  | .int i => .ok (i != 0)
  | .str y => guard (y.length ≤ sizeLine) (.ok ((y.length : Int) != 0))
  | .lst ds => .ok (!ds.isEmpty)
  | .fz ds => .ok (!ds.isEmpty)
  | .tup ds => .ok (!ds.isEmpty)
  | _ => .bad
noncomputable def dTru (f : Rho → Res D) : Rho → Res Bool := fun r => (f r).bind truB
theorem RpA.empty {K : PySem.W.Frag} {cm : CM} {S : Hp} {vs : List V} {ds : List D} (h : RpA K cm S vs ds) : (!ds.isEmpty) = !vs.isEmpty := by cases h <;> rfl
theorem dt_tru (he : PE X e (tR c G f)) (hw : ∀ whole, isTrue e X.env whole = (do let v ← whole; standAt e.pos; holding [v] (truthy v))) (hK : c.K = X.K := by rfl) : PT X e (tT c G (dTru f)) :=
  pt_imp (pt_truth he hw) fun σ H Q ⟨S0, H0, S, r, ok, p⟩ => rd_seq ok p fun d v S1 H1 w1 o1 m1 p1 => by
    rw [← hK]
    cases d with
    | non => cases RpB.non m1; exact ⟨_, rfl, p1.go o1.ex _ rfl⟩
    | bl b => cases RpB.bl m1; exact ⟨_, rfl, p1.go o1.ex _ rfl⟩
    | int i => cases RpB.int m1; exact ⟨_, rfl, p1.go o1.ex _ rfl⟩
    | str y =>
      cases RpB.str m1
      obtain ⟨hl, p1⟩ := p1.gd
      exact ⟨_, ⟨hl, rfl⟩, p1.go o1.ex _ rfl⟩
    | lst ds => obtain ⟨q, xs, rfl, a1, r1⟩ := RpB.list m1 o1.ex; exact ⟨_, .inl ⟨xs, .inl (.inl a1), r1.empty⟩, p1.go o1.ex _ rfl⟩
    | fz ds => obtain ⟨q, xs, rfl, a1, r1⟩ := RpB.fz m1 o1.ex; exact ⟨_, .inl ⟨xs, a1, r1.empty⟩, p1.go o1.ex _ rfl⟩
    | tup ds => obtain ⟨q, xs, rfl, a1, r1, s1⟩ := RpB.tup m1 o1.ex; exact ⟨_, .inr (.inl ⟨xs, a1, r1.empty⟩), p1.go o1.ex _ rfl⟩
    | _ => exact p1.elim
def augF (i : Nat) (g : D → D → Res D) (f : Rho → Res D) : Rho → SR := fun r => liftS r (dVar i r) fun x => liftS r (f r) fun y => liftS r (g x y) fun z => .nx (r.set i (some z))
end
end Dx
end S_DxT
section S_DxS
set_option Elab.async false
set_option linter.all false
set_option maxRecDepth 100000
set_option maxHeartbeats 2000000
namespace Dx
open PySem L2
/-- new own lists that stand in each other -/
def mG (c : Cf) : Md V D := fun H S' H' v d => ∃ k M A, d = .st k M ∧ A.Nodup ∧ A.length = M.length ∧ (∃ a, A[k]? = some a ∧ v = .ref a) ∧ (∀ a ∈ A, H a = none ∧ S' a = none) ∧
  ∀ (n : Nat) row, M[n]? = some row → ∃ a xs, A[n]? = some a ∧ H' a = some (.lst xs) ∧ RmA c.K c.cm A S' xs row
instance {c : Cf} : Anti (mG c) := ⟨fun e ⟨k, M, A, h1, h2, h3, h4, h5, h6⟩ => ⟨k, M, A, h1, h2, h3, h4, fun a ha => ⟨e.nn (h5 a ha).1, (h5 a ha).2⟩, h6⟩⟩
section
variable {X : Cx} {c : Cf} {L G G' : List Ow} {σ : St} {S0 H0 S H S' H' : Hp} {r : Rho}
variable {e : Expr} {pos : Pos} {f : Rho → Res D}
theorem RmA.atI {A : List Addr} {xs : List V} {row : List D} {j : Int} {d : D} (h : RmA c.K c.cm A S xs row) (q : L2.atI row j = some d) : ∃ v, L2.atI xs j = some v ∧ RmV c.K c.cm A S v d := by
  unfold L2.atI at q ⊢
  rw [h.1]
  cases hj : ixN row.length j with
  | none => rw [hj] at q; cases q
  | some n =>
    rw [hj] at q
    have q : row[n]? = some d := q
    have hlt : n < xs.length := by rw [h.1]; exact (List.getElem?_eq_some_iff.mp q).1
    exact ⟨xs[n], List.getElem?_eq_getElem hlt, h.2 n _ d (List.getElem?_eq_getElem hlt) q⟩
theorem RmA.set {A : List Addr} {xs : List V} {row : List D} {v : V} {d : D} (h : RmA c.K c.cm A S xs row) (hv : Rp c.K c.cm S v d) (n : Nat) : RmA c.K c.cm A S (xs.set n v) (row.set n d) := by
  refine ⟨by rw [List.length_set, List.length_set]; exact h.1, fun i u e hu he => ?_⟩
  rw [List.getElem?_set] at hu he
  split at hu
  · rename_i hni
    rw [if_pos hni] at he
    split at hu
    · cases hu
      split at he
      · cases he; exact .inl hv
      · cases he
    · cases hu
  · rename_i hni
    rw [if_neg hni] at he
    exact h.2 i u e hu he
end
end Dx
end S_DxS
section S_DxU
set_option Elab.async false
set_option linter.all false
set_option maxRecDepth 100000
set_option maxHeartbeats 2000000
namespace Dx
open PySem L2
def optL (g : D → Option D) : List D → Option (List D)
  | [] => some []
  | d :: ds => match g d, optL g ds with
    | some e, some es => some (e :: es)
    | _, _ => none
def derefD : Nat → List (List D) → D → Option D
  | _, _, .st _ _ => none
  | 0, _, .own _ => none
  | n + 1, M, .own k => match M[k]? with
    | some row => match optL (derefD n M) row with
      | some ds => some (.lst ds)
      | none => none
    | none => none
  | _, _, d => some d
section
variable {X : Cx} {c : Cf} {L G G' : List Ow} {σ : St} {S0 H0 S H S' H' : Hp} {r : Rho}
/-- all the own lists of slot i become values; the slots ws, that hold some of them, are given up -/
def pubF (n i : Nat) (ws : List Nat) : Rho → SR := fun r => match r[i]? with
  | some (some (.st k M)) => match derefD n M (.own k) with
    | some d => .nx ((wipeR r ws).set i (some d))
    | none => .bad
  | _ => .bad
end
end Dx
end S_DxU
section S_DxV
set_option Elab.async false
set_option linter.all false
set_option maxRecDepth 100000
set_option maxHeartbeats 2000000
namespace Dx
open PySem L2
/-- each item with its number -/
def numd : Nat → List D → List D
  | _, [] => []
  | n, d :: ds => .tup [.int (n : Int), d] :: numd (n + 1) ds
theorem numd_get : ∀ (ds : List D) (n i : Nat) (d : D), ds[i]? = some d → (numd n ds)[i]? = some (.tup [.int ((n + i : Nat) : Int), d])
  | [], _, _, _, h => by simp at h
  | d :: ds, n, 0, e, h => by simp at h; subst h; simp [numd]
  | d :: ds, n, i + 1, e, h => by
    have := numd_get ds (n + 1) i e (by simpa using h)
    rw [numd, List.getElem?_cons_succ, this, show n + 1 + i = n + (i + 1) by omega]
section
variable {X : Cx} {c : Cf} {G : List Ow} {f : Rho → Res D} {e : Expr} {pos : Pos}
theorem YOk.num {S : Hp} {xs : List V} {ds : List D} (rr : RpA c.K c.cm S xs ds) : YOk c S (numd 0 ds) (YPair (fun i => some (.int (i : Nat))) (fun i => xs[i]?)) := by
  intro i S1 H1 x H2 hi e1 e2 y
  obtain ⟨T, a, b, rfl, h1, rfl, h2, h3⟩ := y
  cases h2
  obtain ⟨d, g1, g2⟩ := rr.getV h3
  refine ⟨upd S1 T (.tup [.int (i : Nat), b]), .tup [.int ((0 + i : Nat) : Int), d], Fwd.both e2 h1, numd_get ds 0 i d g1, ?_⟩
  rw [Nat.zero_add]
  have ex : Ex S1 (upd S1 T (.tup [.int (i : Nat), b])) := Ex.new (e2.nn h1)
  exact .tup upd_same (.cons (.int _) (.cons ((g2.mono e1).mono ex) .nil))
def itemsF (d : D) : Res (List D) := match d with
  | .lst ds => .ok ds
  | .fz ds => .ok ds
  | _ => .bad
def enumL (d : D) : Res (List D) := (itemsF d).bind fun ds => .ok (numd 0 ds)
def enumT (d : D) : Res (List D) := (itemsT d).bind fun ds => .ok (numd 0 ds)
end
end Dx
end S_DxV
section S_DxW
set_option Elab.async false
set_option linter.all false
set_option maxRecDepth 100000
set_option maxHeartbeats 2000000
namespace Dx
open PySem L2 PyProof.Rows
end Dx
end S_DxW
section S_DxX
set_option Elab.async false
set_option linter.all false
set_option maxRecDepth 100000
set_option maxHeartbeats 2000000
namespace Dx
open PySem L2
section
variable {X : Cx} {c : Cf} {L G G' : List Ow} {f f1 f2 : Rho → Res D} {a b e : Expr} {pos : Pos} {tg : Expr}
noncomputable def powD : D → D → Res D
  | .int i, .int j => guard (0 ≤ j ∧ j ≤ 1000000 ∧ i.natAbs < 18446744073709551616) (.ok (.int (i ^ j.toNat)))
  | _, _ => .bad
theorem os_pow : OpS c (mV c) (rI CPow fun i j => .int (i ^ j.toNat)) powD := by
  intro σ S H x y d e Q ex hx hy p
  unfold powD at p
  split at p
  · obtain ⟨h, p⟩ := p.gd
    cases hx.int
    cases hy.int
    exact ⟨_, _, rfl, rfl, ⟨h.1, h.2.1, by have := h.2.2; omega⟩, p.here ex (.int _)⟩
  · exact p.elim
/-- the numbers from lo down, n of them -/
def rngDn (lo : Int) (n : Nat) : List D := (List.range n).map fun (i : Nat) => D.int (lo - (i : Int))
noncomputable def rng3 : List D → Res (List D)
  | [.int a, .int b, .int (-1)] => guard (-4611686018427387904 ≤ a ∧ a < 4611686018427387904 ∧ -4611686018427387904 ≤ b ∧ b < 4611686018427387904) (.ok (rngDn a (a - b).toNat))
  | _ => .bad
theorem gives_dn {H0 S : Hp} {lo : Int} {n : Nat} : Gives c H0 S (Itc lo (-1) n) (rngDn lo n) := by
  have hl : (rngDn lo n).length = n := by unfold rngDn; simp
  refine ⟨_, _, by rw [hl]; exact walk_rangeC, fun _ _ _ _ _ => trivial, fun i S1 H1 x H2 hi e1 e2 y => ?_⟩
  obtain ⟨rfl, rfl⟩ := y
  rw [hl] at hi
  refine ⟨S1, .int (lo - (i : Int)), Fwd.refl e2, by unfold rngDn; simp [hi], ?_⟩
  have : lo + (i : Int) * (-1) = lo - (i : Int) := by omega
  show Rp c.K c.cm S1 (V.int (lo + (i : Int) * (-1))) _
  rw [this]
  exact .int _
theorem di_rng3 {p : Pos} {c' : Expr} {fs : Rho → Res (List D)} (hm : X.mg "range" = none) (hg : Gl X "range") (ha : PA X [a, b, c'] (tAs c G fs)) (hs : starEach [a, b, c'] X.env = (false, eval a X.env) :: starEach [b, c'] X.env := by rfl) (hpl : (backTo pos (starEach [b, c'] X.env)).any (·.1) = false := by rfl) :
    PI X tg (.Call (.Name "range" p) [a, b, c'] [] pos) (iD c G (dIts rng3 fs)) :=
  pi_imp (pi_range3 hg hm ha hs hpl) fun σ H R ⟨S0, H0, S, r, ok, p⟩ => rd_seq ok p fun ds vs S1 H1 w1 o1 m1 p1 => by
    unfold rng3 at p1
    split at p1
    · obtain ⟨hl, p1⟩ := p1.gd
      match vs, m1 with
      | _, .cons h (.cons h' (.cons h'' .nil)) =>
        cases h; cases h'; cases h''
        obtain ⟨h1, h2, h3, h4⟩ := hl
        exact ⟨_, _, _, _, rfl, RgC.neg (by omega) (by omega) (by omega) (by omega), p1.go o1.ex _ gives_dn⟩
    · exact p1.elim
/-- sum of a list of ints -/
def allInt : List D → Option (List Int)
  | [] => some []
  | .int i :: ds => match allInt ds with
    | some is => some (i :: is)
    | none => none
  | _ => none
def sumD : D → Res D
  | .lst ds => match allInt ds with
    | some is => .ok (.int is.sum)
    | none => .bad
  | _ => .bad
theorem RpA.ints {S : Hp} : ∀ {vs : List V} {ds : List D} {is : List Int}, RpA c.K c.cm S vs ds → allInt ds = some is → vs = is.map V.int
  | _, [], _, h, q => by cases h; cases q; rfl
  | _, d :: ds, is, h, q => by
    cases h with
    | cons h1 h2 =>
      unfold allInt at q
      cases d with
      | int i =>
        dsimp only at q
        split at q
        · rename_i js hj
          cases q
          cases h1
          rw [RpA.ints h2 hj]; rfl
        · cases q
      | _ => cases q
theorem cs_sum : CallS c (mV c) (rSum c.K) [true] (g1 sumD) := by
  intro σ S H vs ds Q ex m p
  obtain ⟨v, d, rfl, rfl, h⟩ := m.one
  cases d with
  | lst ds =>
    obtain ⟨q, xs, rfl, a1, r1⟩ := h.list ex
    replace p : PostG c σ S H (match allInt ds with | some is => Res.ok (D.int is.sum) | none => .bad) (fun a S' H' => ∀ b, mV c H S' H' b a → Q b H') := p
    split at p
    · rename_i is hi
      refine ⟨q, is, rfl, .inl (.inl ?_), p.here ex (.int _)⟩
      rw [← r1.ints hi]; exact a1
    · exact p.elim
  | _ => exact p.elim
def popF (i : Nat) (t : D → Rho → Res Rho) : Rho → SR := fun r => liftS r (ownL i r) fun ds => match ds[ds.length - 1]? with
  | some d => match t d (r.set i (some (.lst ds.dropLast))) with
    | .ok r' => .nx r'
    | _ => .bad
  | none => .bad
theorem RpA.dropLast {S : Hp} {vs : List V} {ds : List D} (h : RpA c.K c.cm S vs ds) : RpA c.K c.cm S vs.dropLast ds.dropLast := by
  rw [List.dropLast_eq_take, List.dropLast_eq_take, h.length]
  exact h.take _
theorem ds_pop (i : Nat) {x : Str} {pn apos cpos : Pos} {ks : List Nat} {t : D → Rho → Res Rho} (hg : Gok c G) (k : kd G i = .o) (ho : PE X (.Name x pn) (tVar i)) (ht : PG X tg (gD c G G' ks t))
    (hbase : attributeBase (.Name x pn) "pop" X.env (eval (.Name x pn) X.env) = eval (.Name x pn) X.env := by rfl) (hline : (apos.endLine == cpos.line) = true := by rfl)
    (hs : swapsWithSole [tg] (.Call (.Attribute (.Name x pn) "pop" apos) [] [] cpos) pos.line X.env = pure false := by rfl) (hw : swappedStores [tg] (.Call (.Attribute (.Name x pn) "pop" apos) [] [] cpos) X.env = pure none := by rfl)
    (h1 : (assignEach [tg] X.env).map (·.2) = [assign tg X.env] := by rfl) :
    PS X (.Assign [tg] (.Call (.Attribute (.Name x pn) "pop" apos) [] [] cpos) pos) (sD c L G G' (popF i t)) :=
  ps_imp (ps_asg (pe_bm0 PySem.F.plainAttrs_list PySem.F.slot_list_pop PySem.F.type_list_pop mt_pop ho hbase hline) ht hs hw h1) fun E σ H ⟨S0, H0, S, r, ok, p⟩ => by
    obtain ⟨q, xs, ds, hd, z1, z2, z3, p1⟩ := of_ownL ok k p
    refine ⟨.ref q, z1, .inl ⟨rfl, xs, .inl (.inl z2)⟩, ?_⟩
    split at p1
    · rename_i d hlast
      obtain ⟨y, hy, ry⟩ := z3.get (i := ds.length - 1) hlast
      rw [← z3.length] at hy
      refine ⟨q, xs, y, rfl, rfl, z2, hy, ?_⟩
      split at p1
      · rename_i r' hr'
        have e1 := ok.mut k hd z1 (.lst z3.dropLast)
        refine ⟨S0, H0, S, _, d, e1, ry, ?_⟩
        rw [hr']
        exact fun σ' _ e2 => p1 σ' S _ e2
      · exact p1.elim
    · exact p1.elim
end
end Dx
end S_DxX
section S_DxY
set_option Elab.async false
set_option linter.all false
set_option maxRecDepth 100000
set_option maxHeartbeats 2000000
namespace Dx
open PySem L2
section
variable {X : Cx} {CX : CXT} {k : Nat} {f C : Addr} {fd : FuncData} {ps : List Str} {sp : Sp} {E : St → XK} {x m : Str} {p pos apos : Pos} {e o : Expr} {es : List Expr} {ta : TE} {t : TA}
def tMethSD (C : Addr) (m : Str) (sp : Sp) (E : St → XK) (ta : TE) (t : TA) : TE := fun σ H Q => ta σ H fun x H1 => ∃ a dx fs, x = .ref a ∧ H1 a = some (.ins C dx fs) ∧ fs.lookup m = none ∧
  t σ H1 fun vs H2 => sp (x :: vs) H2 Q (E σ)
theorem pe_methSD {pl : Sem Bool} (he : PE X o ta) (c : Cls X.K C) (hm : Meth X.K C m f) (F : FnOk X.prog X.w X.K X.mg X.base CX k f fd ps sp) (hr : Room k X.A) (hb : L2.Binds X.K fd ps []) (hx : ∀ σ, PassesAt CX X σ (E σ)) (ha : PA X (e :: es) t)
    (hst : starEach (e :: es) X.env = (false, eval e X.env) :: starEach es X.env := by rfl) (hpl : (backTo pos (starEach es X.env)).any (·.1) = false := by rfl)
    (ht : eval (.Call (.Attribute o m apos) (e :: es) [] pos) X.env = (do
      let ov ← eval o X.env
      standAt apos.atName
      let (f, first) ← holding [ov] (getMethod ov m pl)
      callWith pos f first (backTo pos (starEach (e :: es) X.env)) (backToKw pos (keywordEach [] X.env))) := by rfl) :
    PE X (.Call (.Attribute o m apos) (e :: es) [] pos) (tMethSD C m sp E ta t) := by
  refine ⟨fun pins s σ H Q I h => ?_⟩
  refine PySem.W.methodCall_KW (pl := pl) (thn (he.run pins s σ H _ I h) fun u s1 ⟨x, H1, I1, rx, a, dx, fs, ex, ea, l, q⟩ => ?_) ht
  subst ex
  obtain rfl : u = Value.ref a := rx
  refine getmeth_ok I1 ea c hm l ?_
  refine PySem.W.callWith_K (first := [.ref a]) (h₀ := X.base) I.ok.mod.kin hm.kp (thn (ha.run pos pins s1 σ H1 _ I1 q) fun us s2 ⟨vs, H2, I2, r, q2⟩ => ⟨I2.kIn, ?_⟩) hst hpl
  exact run_fnSD (dvs := []) (us := .ref a :: us) (vs := .ref a :: vs) F hr hb .nil (hx σ) I2 (.cons rfl r) (by rw [List.append_nil]; exact q2)
def tMakeSD (C : Addr) (sp : Sp) (dvs : List V) (E : St → XK) (t : TA) : TE := fun σ H Q => t σ H fun vs H1 => ∀ x dx, H1 x = none → H1 dx = none → dx ≠ x →
  sp (.ref x :: (vs ++ dvs)) (upd (upd H1 dx (.own x)) x (.ins C dx [])) (fun v H2 => v = .non ∧ Q (.ref x) H2) (E σ)
variable {dvs : List V} {ds : List Value}
theorem run_makeSD {pins : List (Addr × Obj)} {σ : St} {H : Hp} {s : Shared} {Q : VK} {us : List Value} {vs : List V} (M : Mk X.K C f) (F : FnOk X.prog X.w X.K X.mg X.base CX k f fd ps sp) (hr : Room (k + 1) X.A) (hb : L2.Binds X.K fd ps ds) (hd : Vals dvs ds)
    (hx : PassesAt CX X σ (E σ)) (I : Inv X pins σ H s) (r : Vals vs us)
    (h : ∀ x dx, H x = none → H dx = none → dx ≠ x → sp (.ref x :: (vs ++ dvs)) (upd (upd H dx (.own x)) x (.ins C dx [])) (fun v H2 => v = .non ∧ Q (.ref x) H2) (E σ)) :
    wpAny (model X.prog X.w) X.A (call (.ref C) us) (EP X pins σ Q) X.xe s := by
  have hq := h (s.heap.objs.size + 1) s.heap.objs.size (I.hok.fresh (Nat.le_succ _)) (I.hok.fresh (Nat.le_refl _)) (Nat.ne_of_lt (Nat.lt_succ_self _))
  have I2 := Inv.made (C := C) I
  have r2 : Vals (V.ref (s.heap.objs.size + 1) :: (vs ++ dvs)) (Value.ref (s.heap.objs.size + 1) :: (us ++ ds)) := .cons rfl (r.append hd)
  have hl : (Value.ref (s.heap.objs.size + 1) :: us ++ ds).length = ps.length := by
    have e := r2.length
    rw [F.len _ _ _ _ hq] at e
    exact e.symm
  refine wpAny_call (make_map (f := f) I.kIn M.makes M.init (beq_iff_eq.mp M.fn) (codeAny_mono (F.run _ X.stack _ _ ⟨Value.ref (s.heap.objs.size + 1) :: us, []⟩ (Value.ref (s.heap.objs.size + 1) :: (us ++ ds)) _ _ (E σ) (hr.make C us [])
    (I2.env0.make C us []) (hb _ (Value.ref (s.heap.objs.size + 1) :: us) I2.kIn hl) r2 hq) fun r s' hq' => ?_))
  cases r with
  | error e => exact hx pins _ _ e s' I2 hq'
  | ok fl =>
    cases fl with
    | ret u =>
      obtain ⟨v, H', I3, rv, ev, q3⟩ := I2.after hq'
      subst ev
      exact ⟨rv, ⟨V.ref (s.heap.objs.size + 1), H', I3, rfl, q3⟩⟩
    | next => exact False.elim hq'
    | brk => exact False.elim hq'
    | cont => exact False.elim hq'
theorem pe_makeSD (M : Mk X.K C f) (F : FnOk X.prog X.w X.K X.mg X.base CX k f fd ps sp) (hr : Room (k + 1) X.A) (hg : Gl X x) (hm : X.mg x = some (.ref C)) (hb : L2.Binds X.K fd ps ds) (hd : Vals dvs ds) (hx : ∀ σ, PassesAt CX X σ (E σ))
    (ha : PA X (e :: es) t) (hdb : (x == ("__debug__" : Str)) = false := by decide) (he : starEach (e :: es) X.env = (false, eval e X.env) :: starEach es X.env := by rfl) (hpl : (backTo pos (starEach es X.env)).any (·.1) = false := by rfl) :
    PE X (.Call (.Name x p) (e :: es) [] pos) (tMakeSD C sp dvs E t) := by
  refine ⟨fun pins s σ H Q I h => ?_⟩
  refine wpAny_Call_Name_kw (ld_glob I hg hm ?_ hdb)
  refine PySem.W.callWith_K (h₀ := X.base) I.ok.mod.kin M.kp (thn (ha.run pos pins s σ H _ I h) fun us s1 ⟨vs, H1, I1, r, q⟩ => ⟨I1.kIn, ?_⟩) he hpl
  exact run_makeSD M F hr hb hd (hx σ) I1 r q
end
section
variable {X : Cx} {c : Cf} {L G G' : List Ow} {f f1 : Rho → Res D} {e o : Expr} {es : List Expr} {pos apos p : Pos} {fs : Rho → Res (List D)}
/-- of an object of the class n, its field fl -/
def fldD (n fl : Str) : D → Res D
  | .obj c ns vs => if c = n then (match lookF ns vs fl with
    | some d => .ok d
    | none => .bad) else .bad
  | _ => .bad
theorem de_fld {n fl : Str} {C : Addr} (hcn : c.cm n = some C) (cl : Cls X.K C) (na : NoAttr X.K C fl) (he : PE X e (tR c G f)) (hb : attributeBase e fl X.env (eval e X.env) = eval e X.env := by rfl) :
    PE X (.Attribute e fl pos) (tV c G (dUn (fldD n fl) f)) := pe_imp (pe_fld he hb) fun σ H Q ⟨S0, H0, S, r, ok, p⟩ => rd_seq ok p fun d v S1 H1 w1 o1 m1 p1 => by
  cases d with
  | obj c' ns vs =>
    unfold fldD at p1
    dsimp only at p1
    split at p1
    · rename_i hc
      subst hc
      split at p1
      · rename_i d' hd
        obtain ⟨q, C', dx, fs, rfl, h1, h2, rfl, h4⟩ := RpB.obj m1 o1.ex
        rw [hcn] at h1; cases h1
        obtain ⟨v', hv, hr⟩ := look_rp h4 hd
        exact ⟨q, C, dx, fs, v', rfl, h2, cl, na, hv, p1.go o1.ex _ hr⟩
      · exact p1.elim
    · exact p1.elim
  | _ => exact p1.elim
/-- the own object in slot i gets a field -/
def putN (fl : Str) (d : D) : List Str → List D → List Str × List D
  | n :: ns, v :: vs => if n = fl then (n :: ns, d :: vs) else let z := putN fl d ns vs; (n :: z.1, v :: z.2)
  | ns, vs => (ns ++ [fl], vs ++ [d])
theorem putN_rp {K : PySem.W.Frag} {cm : CM} {S : Hp} {fl : Str} {d : D} {v : V} (hv : Rp K cm S v d) : ∀ {fs : List (Str × V)} {vs : List D}, RpA K cm S (fs.map (·.2)) vs →
    (putN fl d (fs.map (·.1)) vs).1 = (putF fl v fs).map (·.1) ∧ RpA K cm S ((putF fl v fs).map (·.2)) (putN fl d (fs.map (·.1)) vs).2
  | [], vs, h => by
    cases h
    refine ⟨rfl, ?_⟩
    show RpA K cm S [v] [d]
    exact .one hv
  | (n, u) :: fs, _, h => by
    cases h with | @cons _ _ d' ds' h1 h2 =>
    obtain ⟨z1, z2⟩ := putN_rp hv h2
    by_cases hn : n = fl
    · subst hn
      have e1 : putF n v ((n, u) :: fs) = (n, v) :: fs := by unfold putF; simp
      have e2 : putN n d (((n, u) :: fs).map (·.1)) (d' :: ds') = (n :: fs.map (·.1), d :: ds') := by
        show putN n d (n :: fs.map (·.1)) (d' :: ds') = _
        unfold putN; simp
      rw [e1, e2]
      exact ⟨rfl, .cons hv h2⟩
    · have e1 : putF fl v ((n, u) :: fs) = (n, u) :: putF fl v fs := by
        conv => lhs; unfold putF
        simp [hn, Ne.symm hn]
      have e2 : putN fl d (((n, u) :: fs).map (·.1)) (d' :: ds') = (n :: (putN fl d (fs.map (·.1)) ds').1, d' :: (putN fl d (fs.map (·.1)) ds').2) := by
        show putN fl d (n :: fs.map (·.1)) (d' :: ds') = _
        conv => lhs; unfold putN
        simp [hn]
      rw [e1, e2]
      exact ⟨by simp [z1], .cons h1 z2⟩
def fstF (i : Nat) (n fl : Str) (f : Rho → Res D) : Rho → SR := fun r => liftS r (f r) fun d => match r[i]? with
  | some (some (.obj c ns vs)) => if c = n ∧ ns.length < 1000 then .nx (r.set i (some (.obj c (putN fl d ns vs).1 (putN fl d ns vs).2))) else .bad
  | _ => .bad
theorem ds_fst (i : Nat) {n fl x : Str} {C : Addr} {pn pos' : Pos} (hg : Gok c G) (hcn : c.cm n = some C) (cl : Cls X.K C) (na : NoAttr X.K C fl) (k : isO (kd G i)) (ho : PE X (.Name x pn) (tVar i)) (he : PE X e (tV c G f))
    (hs : swapsWith e (some (.Attribute (.Name x pn) fl pos')) pos.line X.env = pure false := by rfl) : PS X (.Assign [.Attribute (.Name x pn) fl pos'] e pos) (sD c L G G (fstF i n fl f)) :=
  ps_imp (ps_fld ho he hs) fun E σ H ⟨S0, H0, S, r, ok, p⟩ => st_seq hg ok p fun d v S1 H1 w1 o1 m1 p1 => by
    split at p1
    · rename_i c' ns vs hr
      split at p1
      · rename_i hc
        obtain ⟨rfl, hl⟩ := hc
        obtain ⟨q, ho', s1, s2, s3, s4, s5⟩ := o1.ownI k hr
        cases s5 with | @obj C' dx _ fs _ _ h1 h2 h3 =>
        rw [hcn] at h1; cases h1
        subst h2
        obtain ⟨z1, z2⟩ := putN_rp (fl := fl) m1 h3
        refine ⟨.ref q, s1, q, C, dx, fs, rfl, s2, cl, na, by simpa using hl, p1 σ S1 _ ?_⟩
        exact o1.mutI k hr s1 (.obj hcn z1 z2)
      · exact p1.elim
    · exact p1.elim
variable {k : Nat} {fa : Addr} {fd : FuncData} {ps : List Str} {ms : List Bool} {rm : Bool} {F : List D → Res D}
def isObj (n m : Str) : D → Res Unit
  | .obj c ns _ => if c = n ∧ m ∉ ns then .ok () else .bad
  | _ => .bad
def dMeth (n m : Str) (F : List D → Res D) (f1 : Rho → Res D) (fs : Rho → Res (List D)) : Rho → Res D := fun r => (f1 r).bind fun x => (isObj n m x).bind fun _ => (fs r).bind fun ds => F (x :: ds)
theorem lookup_none {fs : List (Str × V)} {m : Str} (h : m ∉ fs.map (·.1)) : fs.lookup m = none := by
  induction fs with
  | nil => rfl
  | cons a fs ih =>
    obtain ⟨n, v⟩ := a
    simp only [List.map_cons, List.mem_cons, not_or] at h
    rw [List.lookup_cons]
    have : (m == n) = false := by simpa using h.1
    rw [this]
    exact ih h.2
theorem of_isObj {σ : St} {S H : Hp} {n m : Str} {d : D} {v : V} {g : Unit → Res D} {kk : D → Hp → Hp → Prop} (ex : Ex S H) (hv : RpB c.K c.cm S H v d) (p : PostG c σ S H ((isObj n m d).bind g) kk) :
    ∃ a C dx fs, v = .ref a ∧ c.cm n = some C ∧ H a = some (.ins C dx fs) ∧ fs.lookup m = none ∧ PostG c σ S H (g ()) kk := by
  cases d with
  | obj c' ns vs =>
    unfold isObj at p
    dsimp only at p
    split at p
    · rename_i hc
      obtain ⟨rfl, hm⟩ := hc
      obtain ⟨q, C', dx, fs, rfl, h1, h2, rfl, h4⟩ := RpB.obj hv ex
      exact ⟨q, C', dx, fs, rfl, h1, h2, lookup_none hm, p⟩
    · exact p.elim
  | _ => exact p.elim
theorem de_meth {n m : Str} {C : Addr} {pl : Sem Bool} (hcn : c.cm n = some C) (cl : Cls X.K C) (hm : Meth X.K C m fa) (F1 : FnOk X.prog X.w X.K X.mg X.base (L2N.CX X.prog X.w) k fa fd ps (spD c.K c.cm (true :: ms) rm F)) (tk : L2N.Takes X c.W) (hr : Room k X.A) (hb : L2.Binds X.K fd ps [])
    (he : PE X o (tR c G f1)) (ha : PA X (e :: es) (tM c G ms fs))
    (hst : starEach (e :: es) X.env = (false, eval e X.env) :: starEach es X.env := by rfl) (hpl : (backTo pos (starEach es X.env)).any (·.1) = false := by rfl)
    (ht : eval (.Call (.Attribute o m apos) (e :: es) [] pos) X.env = (do
      let ov ← eval o X.env
      standAt apos.atName
      let (f, first) ← holding [ov] (getMethod ov m pl)
      callWith pos f first (backTo pos (starEach (e :: es) X.env)) (backToKw pos (keywordEach [] X.env))) := by rfl) :
    PE X (.Call (.Attribute o m apos) (e :: es) [] pos) (rd c G (dMeth n m F f1 fs) (mR c rm)) :=
  pe_imp (pe_methSD (pl := pl) (E := fun σ cls d H => c.W cls d σ H) he cl hm F1 hr hb (fun σ => L2N.passAt tk σ) ha hst hpl ht) fun σ H Q ⟨S0, H0, S, r, ok, q⟩ => rd_seq ok q fun x v S1 H1 w1 o1 m1 p1 => by
    obtain ⟨a, C', dx, fs', rfl, z1, z2, z3, p2⟩ := of_isObj o1.ex m1 p1
    rw [hcn] at z1; cases z1
    exact ⟨a, dx, fs', rfl, z2, z3, rd_seq o1 p2 fun ds vs S2 H2 w2 o2 m2 p3 => call_rd (ds := x :: ds) (fun _ _ _ h => h) o2.ex ⟨RpB.mono m1 w2.s w2.h, m2⟩ (p3.anti (w1.h.trans w2.h))⟩
/-- what an __init__ promises: from its arguments' data to the new object's data -/
def spI (K : PySem.W.Frag) (cm : CM) (C : Addr) (ms : List Bool) (F : List D → Res D) : Sp := fun vs H Q E => ∃ x dx H1 S us ds, vs = .ref x :: us ∧ H1 x = none ∧ H1 dx = none ∧ dx ≠ x ∧ H = upd (upd H1 dx (.own x)) x (.ins C dx []) ∧ Ex S H1 ∧
  RpM ⟨K, cm, fun _ _ _ _ => False, none, true, fun _ _ => False⟩ S H1 ms us ds ∧
  PostG ⟨K, cm, fun cls d _ H => E cls d H, none, true, fun _ _ => False⟩ [] S H1 (F ds) fun a S' H' => (∃ ho, S' x = none ∧ H' x = some ho ∧ RpO K cm S' ho a) → Q .non H'
theorem make_rd {E : XK} {σ : St} {S H : Hp} {vs : List V} {ds : List D} {Q : VK} {C x dx : Addr} (hE : ∀ cls d H, c.W cls d σ H → E cls d H) (ex : Ex S H) (m : RpM c S H ms vs ds) (hx : H x = none) (hdx : H dx = none) (hne : dx ≠ x)
    (q : PostG c σ S H (F ds) fun a S' H' => ∀ b, mO c H S' H' b a → Q b H') : spI c.K c.cm C ms F (.ref x :: vs) (upd (upd H dx (.own x)) x (.ins C dx [])) (fun v H2 => v = .non ∧ Q (.ref x) H2) E := by
  refine ⟨x, dx, H, S, vs, ds, rfl, hx, hdx, hne, rfl, ex, RpM.cf (c := c) (c' := ⟨c.K, c.cm, fun _ _ _ _ => False, none, true, fun _ _ => False⟩) rfl rfl m, ?_⟩
  cases hF : F ds with
  | ok a =>
    rw [hF] at q
    intro S' H' w ⟨ho, h1, h2, h3⟩
    exact ⟨rfl, q S' H' w _ ⟨x, ho, rfl, hx, h1, h2, h3⟩⟩
  | err n ns vs => rw [hF] at q; exact fun C dd S' H' fs h1 w h2 h3 h4 => hE _ _ _ (q C dd S' H' fs h1 w h2 h3 h4)
  | bad => rw [hF] at q; exact q.elim
theorem de_make {x : Str} {C : Addr} (M : Mk X.K C fa) (F1 : FnOk X.prog X.w X.K X.mg X.base (L2N.CX X.prog X.w) k fa fd ps (spI c.K c.cm C ms F)) (tk : L2N.Takes X c.W) (hr : Room (k + 1) X.A) (hg : Gl X x) (hm : X.mg x = some (.ref C)) (hb : L2.Binds X.K fd ps [])
    (ha : PA X (e :: es) (tM c G ms fs)) (hdb : (x == ("__debug__" : Str)) = false := by decide) (he : starEach (e :: es) X.env = (false, eval e X.env) :: starEach es X.env := by rfl) (hpl : (backTo pos (starEach es X.env)).any (·.1) = false := by rfl) :
    PE X (.Call (.Name x p) (e :: es) [] pos) (tO c G (dCall F fs)) :=
  pe_imp (pe_makeSD (dvs := []) (E := fun σ cls d H => c.W cls d σ H) M F1 hr hg hm hb .nil (fun σ => L2N.passAt tk σ) ha hdb he hpl) fun σ H Q ⟨S0, H0, S, r, ok, q⟩ => rd_seq ok q fun ds vs S1 H1 w1 o1 m1 p1 => fun x dx hx hdx hne => by
    rw [List.append_nil]
    exact make_rd (fun _ _ _ h => h) o1.ex m1 hx hdx hne (p1.anti w1.h)
end
def startI (n : Nat) (cls : Str) (ds : List D) : Rho := some (.obj cls [] []) :: ds.map some ++ List.replicate (n - (ds.length + 1)) none
def GI (x : Addr) (ms : List Bool) (n : Nat) : List Ow := .i x :: ms.map (fun m => if m then .b else .v) ++ List.replicate (n - (ms.length + 1)) .v
def runI (n : Nat) (cls : Str) (Fb : Rho → SR) (ds : List D) : Res D := match Fb (startI n cls ds) with
  | .nx r => (match r[0]? with
    | some (some d) => .ok d
    | _ => .bad)
  | .er _ n ns vs => .err n ns vs
  | _ => .bad
theorem kd_GI_succ {x : Addr} {ms : List Bool} {n i : Nat} : kd (GI x ms n) (i + 1) = kd (G0 ms (n - 1)) i := by
  unfold kd GI G0
  rw [List.getD_eq_getElem?_getD, List.getD_eq_getElem?_getD]
  simp [Nat.sub_sub, Nat.add_comm]
theorem startI_succ {n i : Nat} {cls : Str} {ds : List D} : (startI n cls ds)[i + 1]? = (startR (n - 1) ds)[i]? := by
  unfold startI startR
  simp [Nat.sub_sub, Nat.add_comm]
section
variable {P : Program} {w : World} {K : PySem.W.Frag} {mg : Str → Option Value} {base : Heap} {cm : CM}
theorem env_startI {c : Cf} {N : List Str} {S H1 : Hp} {us : List V} {ds : List D} {ms : List Bool} {x dx C : Addr} {n : Str} (hcn : c.cm n = some C) (ex : Ex S H1) (m : RpM c S H1 ms us ds) (hn : ms.length + 1 ≤ N.length) (hx : H1 x = none) (hdx : H1 dx = none) (hne : dx ≠ x) (ht : ∀ P q, c.tb P q → LamX.TabS H1 P q := by intro _ _ z; exact False.elim z) :
    EnvOk c S H1 (GI x ms N.length) S (upd (upd H1 dx (.own x)) x (.ins C dx [])) (L2.start N (.ref x :: us)) (startI N.length n ds) := by
  have hl := m.len
  have hx1 : (upd H1 dx (.own x)) x = none := by rw [upd_ne (Ne.symm hne)]; exact hx
  have e1 : Ex H1 (upd (upd H1 dx (.own x)) x (.ins C dx [])) := (Ex.new hdx).trans (Ex.new hx1)
  have fw : Fwd S H1 S (upd (upd H1 dx (.own x)) x (.ins C dx [])) := ⟨Ex.refl, e1, ex.trans e1, fun a o h n => (by rw [n] at h; cases h), (Tk.new hdx).trans (Tk.new hx1)⟩
  refine ⟨fw, by unfold L2.start startI; simp [hl.1, hl.2], fun i d h => ?_, fun i j d e p hi hj ki kj si sj => ?_, ⟨[], .nil (fun i d hi => ?_) ht⟩⟩
  · cases i with
    | zero =>
      have h : some (some (D.obj n [] [])) = some (some d) := h
      cases h
      refine ⟨.ref x, by unfold L2.start; simp, ?_⟩
      show SlotOk c H1 S _ (.i x) (.ref x) _
      exact ⟨rfl, x, _, rfl, upd_same, ex.nn hx, hx, .obj hcn rfl .nil⟩
    | succ i =>
      rw [startI_succ] at h
      have hd := startR_some h
      obtain ⟨v, mm, h1, h2, h3⟩ := m.get hd
      refine ⟨v, ?_, ?_⟩
      · unfold L2.start
        have hlt : i < us.length := (List.getElem?_eq_some_iff.mp h1).1
        rw [List.getElem?_append, if_pos (by simpa using hlt)]
        simp [h1]
      · rw [kd_GI_succ, kd_G0_at h2]
        cases mm with
        | true => exact h3
        | false => exact h3
  · cases i with
    | succ i => rw [kd_GI_succ] at ki; exact absurd ki kd_G0
    | zero => cases j with
      | zero => rfl
      | succ j => rw [kd_GI_succ] at kj; exact absurd kj kd_G0
  · cases i with
    | zero => exact ⟨fun _ h => (by cases h), fun h => (by cases h)⟩
    | succ i => rw [kd_GI_succ]; exact kd_G0_sw
/-- THE RULE for an __init__ -/
theorem dokI {x qual : Str} {st : Stmt} {f C : Addr} {fd : FuncData} {N ps : List Str} {k : Nat} {ms : List Bool} {n : Str} {Fb : Rho → SR} (F : Fun K x qual st f fd) (S : FnScope N ps (defScope st)) (hcn : cm n = some C) (hm : ms.length + 1 = ps.length) (hn : ps.length ≤ N.length)
    {G' : Addr → List Ow} (hG : ∀ a, kd (G' a) 0 = .i a)
    (hb : ∀ (cdv : Value) (A : Around) (outer : List Env) (s : Shared) (H : Hp) (E : XK) (a : Addr), Room k (A.deeper (PyProof.Rows.envOfC qual (defScope st) s.heap.objs.size f cdv)) →
      PSs (cxOf (L2N.CX P w) P w K mg base N qual (defScope st) f cdv A outer s H E) (defBody st) (sD (cfE K cm false E) [] (GI a ms N.length) (G' a) Fb)) :
    FnOk P w K mg base (L2N.CX P w) (k + 1) f fd ps (spI K cm C ms (runI N.length n Fb)) := by
  refine F.okN S (fun vs H Q E h => ?_) (fun cdv A outer s H vs Q E hr h => ?_)
  · obtain ⟨x, dx, H1, S, us, ds, rfl, _, _, _, _, _, m, _⟩ := h
    rw [List.length_cons, m.len.1, hm]
  · obtain ⟨x, dx, H1, S, us, ds, rfl, hx, hdx, hne, rfl, ex, m, q⟩ := h
    refine ⟨_, hb cdv A outer s _ E x hr, S, H1, S, startI N.length n ds, env_startI (c := cfE K cm false E) hcn ex (RpM.cf (c := ⟨K, cm, fun _ _ _ _ => False, none, true, fun _ _ => False⟩) (c' := cfE K cm false E) rfl rfl m) (by omega) hx hdx hne, ?_⟩
    unfold runI at q
    cases hF : Fb (startI N.length n ds) with
    | rt d => rw [hF] at q; exact q.elim
    | nx r =>
      rw [hF] at q
      dsimp only at q
      intro σ' S' H' ok
      split at q
      · rename_i d hd
        obtain ⟨v, h1, h2⟩ := ok.slot 0 d hd
        rw [hG x] at h2
        obtain ⟨rfl, p, ho, e1, e2, e3, e4, e5⟩ := h2
        cases e1
        exact q S' H' ok.fwd ⟨ho, e3, e2, e5⟩
      · exact q.elim
    | er r n ns vs =>
      rw [hF] at q
      exact fun C dd σ' S' H' fs h1 fw _ h2 h3 h4 => q C dd S' H' fs h1 fw h2 h3 h4
    | bk r => rw [hF] at q; exact q.elim
    | ct r => rw [hF] at q; exact q.elim
    | bad => rw [hF] at q; exact q.elim
end
end Dx
end S_DxY
section S_DxZ
set_option Elab.async false
set_option linter.all false
set_option maxRecDepth 100000
set_option maxHeartbeats 2000000
namespace Dx
open PySem L2
section
variable {X : Cx} {c : Cf} {L G G' : List Ow} {f f1 f2 : Rho → Res D} {e e2 : Expr} {pos apos p : Pos} {fs : Rho → Res (List D)}
def enumS (d : D) : Res (List D) := (itemsS d).bind fun ds => .ok (numd 0 ds)
def pairs : List D → List D → List D
  | a :: as, b :: bs => .tup [a, b] :: pairs as bs
  | _, _ => []
def zipS : List D → Res (List D)
  | [.str x, .str y] => .ok (pairs (signs x) (signs y))
  | _ => .bad
def repS (x : Str) (n : Int) : Str := ⟨(List.replicate n.toNat x.cps.toList).flatten.toArray⟩
def rMulS : R2 := fun x y H Q => ∃ i j, x = .str i ∧ y = .int j ∧ j < 2 ^ 60 ∧ -(2 ^ 60) < j ∧ i.length * j.toNat ≤ sizeLine ∧ Q (.str (repS i j)) H
theorem repS_fold (x : Str) (n : Nat) (a : Array Nat) : (List.replicate n x.cps).foldl (· ++ ·) a = a ++ (List.replicate n x.cps.toList).flatten.toArray := by
  induction n generalizing a with
  | zero => simp
  | succ n ih => rw [List.replicate_succ, List.foldl_cons, ih, List.replicate_succ, List.flatten_cons]; apply Array.toList_inj.mp; simp
theorem op_mulS : OpR X (binaryOp .Mult) rMulS := by
  intro pins s σ H x y v u Q I rx ry h
  obtain ⟨i, j, rfl, rfl, h1, h2, hz, q⟩ := h
  obtain ⟨t, rfl⟩ := rx
  obtain ⟨t', rfl⟩ := ry
  have hz2 : (sizeLine : Nat) < 2 ^ 40 := by decide
  refine P.mul_str (by have a1 : ¬ j < -(2 ^ 63 : Int) := by omega
                       have a2 : ¬ j ≥ 2 ^ 63 := by omega
                       rw [decide_eq_false a1, decide_eq_false a2]; rfl) (fun hn hc => ?_) (fun hn hc => ?_) ?_
  · intro hgt
    have hj : 0 < j := by omega
    have h3 : (i.length : Int) * j ≤ sizeLine := by
      have : ((i.length * j.toNat : Nat) : Int) ≤ (sizeLine : Int) := by exact_mod_cast hz
      rw [Int.natCast_mul, Int.toNat_of_nonneg (by omega)] at this
      exact this
    have h4 : (2 ^ 63 - 1) / j + 1 ≤ (i.length : Int) := hgt
    have h5 : ((2 ^ 63 - 1) / j + 1) * j ≤ (i.length : Int) * j := Int.mul_le_mul_of_nonneg_right h4 (by omega)
    have h6 : (2 ^ 63 - 1) < ((2 ^ 63 - 1) / j + 1) * j := Int.lt_ediv_add_one_mul_self _ hj
    have h7 : ((sizeLine : Nat) : Int) < 2 ^ 40 := by exact_mod_cast hz2
    omega
  · exact decide_eq_false (Nat.not_lt.mpr hz)
  · have e1 : repS i j = ⟨(List.replicate j.toNat i.cps).foldl (· ++ ·) #[]⟩ := by
      unfold repS
      rw [repS_fold]; simp
    by_cases hn : j < 1
    · rw [if_pos hn]
      have : repS i j = Str.empty := by
        unfold repS
        rw [show j.toNat = 0 by omega]
        rfl
      rw [this] at q
      exact ⟨by decide, ⟨.str Str.empty, H, I.tok _, ⟨_, rfl⟩, q⟩⟩
    · rw [if_neg hn]
      by_cases hc : (j == 1 || i.length == 0) = true
      · rw [if_pos hc]
        have : repS i j = i := by
          rw [Bool.or_eq_true] at hc
          rcases hc with hc | hc
          · have : j = 1 := by simpa using hc
            subst this
            unfold repS
            apply Str.ext'
            simp
          · have h0 : i.cps.size = 0 := by have : i.length = 0 := by simpa using hc
                                           exact this
            have h0' : i.cps = #[] := Array.eq_empty_of_size_eq_zero h0
            unfold repS
            apply Str.ext'
            rw [h0']
            simp
        rw [this] at q
        exact ⟨.str i, H, I, ⟨_, rfl⟩, q⟩
      · rw [if_neg hc, ← e1]
        refine ⟨?_, ⟨.str (repS i j), H, I.tok _, ⟨_, rfl⟩, q⟩⟩
        have : (repS i j).length = i.length * j.toNat := by
          show (List.replicate j.toNat i.cps.toList).flatten.toArray.size = _
          rw [List.size_toArray, List.length_flatten, List.map_replicate, List.sum_replicate_nat, Array.length_toList, Nat.mul_comm]; rfl
        rw [this]; exact hz
noncomputable def mulX : D → D → Res D
  | .str a, .int k => guard (k < 2 ^ 60 ∧ -(2 ^ 60) < k ∧ a.length * k.toNat ≤ sizeLine) (.ok (.str (repS a k)))
  | x, y => mulD x y
def rMulY : R2 := fun x y H Q => rMulX x y H Q ∨ rMulS x y H Q
theorem or_mulX : OpR X (binaryOp .Mult) rMulY := or_mul.or op_mulS
theorem os_mulX : OpS c (mV c) rMulY mulX := by
  intro σ S H x y d e Q ex hx hy p
  unfold mulX at p
  split at p
  · cases hx.str; cases hy.int
    obtain ⟨⟨h1, h2, h3⟩, p⟩ := p.gd
    exact .inr ⟨_, _, rfl, rfl, h1, h2, h3, p.here ex (.str _)⟩
  · exact .inl (os_mul σ S H x y _ _ Q ex hx hy p)
variable {cpos : Pos}
end
end Dx
end S_DxZ
section S_DxO
set_option Elab.async false
set_option linter.all false
set_option maxRecDepth 100000
set_option maxHeartbeats 2000000
namespace Dx
open PySem L2 ItX
open PyProof.Rows hiding St
section
variable {X : Cx} {k : Nat} {fa C : Addr} {fd : FuncData} {ps : List Str} {sp : Sp} {pins : List (Addr × Obj)} {σ : St} {H : Hp} {s : Shared} {Q : VK} {us : List Value} {vs : List V}
abbrev noX : XK := fun _ _ _ => False
end
section
variable {X : Cx} {c : Cf} {L G G' : List Ow} {f f1 : Rho → Res D} {e o : Expr} {es : List Expr} {pos apos p : Pos} {fs : Rho → Res (List D)} {n : Str} {C : Addr} {F : List D → Res D} {ms : List Bool} {rm : Bool} {k : Nat} {fa : Addr} {fd : FuncData} {ps : List Str}
def dStar (f : Rho → Res D) (fs : Rho → Res (List D)) : Rho → Res (List D) := fun r => (f r).bind fun d => (items d).bind fun xs => (fs r).bind fun ys => .ok (xs ++ ys)
def zipL : List D → Res (List D)
  | [.lst x, .lst y] => .ok (pairs x y)
  | _ => .bad
end
end Dx
end S_DxO
section S_DxP
set_option Elab.async false
set_option linter.all false
set_option maxRecDepth 100000
set_option maxHeartbeats 2000000
namespace Dx
open PySem L2 ItX
open PyProof.Rows hiding St
end Dx
end S_DxP
section S_DxM
set_option Elab.async false
set_option linter.all false
set_option maxRecDepth 100000
namespace Dx
open PySem L2
def Rs {α : Type} (x : Res α) (Q : α → Prop) (E : Str → List Str → List D → Prop) : Prop := match x with
  | .ok a => Q a
  | .err n ns vs => E n ns vs
  | .bad => False
def nE : Str → List Str → List D → Prop := fun _ _ _ => False
def nE' : Rho → Str → List Str → List D → Prop := fun _ _ _ _ => False
def nR : Rho → Prop := fun _ => False
def Ss (o : SR) (N : Rho → Prop) (R : D → Prop) (B C : Rho → Prop) (E : Rho → Str → List Str → List D → Prop) : Prop := match o with
  | .nx r => N r
  | .rt d => R d
  | .bk r => B r
  | .ct r => C r
  | .er r n ns vs => E r n ns vs
  | .bad => False
section
variable {α β : Type} {Q Q' : α → Prop} {E E' : Str → List Str → List D → Prop}
theorem Rs.imp {x : Res α} (h : Rs x Q nE) (k : ∀ a, Q a → Q' a) : Rs x Q' E := by
  cases x with
  | ok a => exact k a h
  | err n ns vs => exact h.elim
  | bad => exact h.elim
theorem Rs.impE {x : Res α} (h : Rs x Q E) (k : ∀ a, Q a → Q' a) (l : ∀ n ns vs, E n ns vs → E' n ns vs) : Rs x Q' E' := by
  cases x with
  | ok a => exact k a h
  | err n ns vs => exact l _ _ _ h
  | bad => exact h.elim
theorem Rs.of {x : Res α} {a : α} (h : x = .ok a) (q : Q a) : Rs x Q E := by rw [h]; exact q
theorem Rs.eq {x : Res α} {a : α} (h : Rs x (fun b => b = a) nE) : x = .ok a := by
  cases x with
  | ok b => exact congrArg _ h
  | err n ns vs => exact h.elim
  | bad => exact h.elim
theorem Rs.get {x : Res α} (h : Rs x Q nE) : ∃ a, x = .ok a ∧ Q a := by
  cases x with
  | ok a => exact ⟨a, rfl, h⟩
  | err n ns vs => exact h.elim
  | bad => exact h.elim
theorem Rs.bind {x : Res β} {k : β → Res α} (h : Rs x (fun b => Rs (k b) Q E) E) : Rs (x.bind k) Q E := by
  cases x with
  | ok a => exact h
  | err n ns vs => exact h
  | bad => exact h
theorem rs_guard {p : Prop} {x : Res α} (h : p) (k : Rs x Q E) : Rs (guard p x) Q E := by rw [guard_pos h]; exact k
end
section
variable {Q : D → Prop} {E : Str → List Str → List D → Prop} {r : Rho} {f f1 f2 f3 : Rho → Res D} {fs : Rho → Res (List D)} {t u : Rho → Res Bool} {d : D} {i : Nat}
theorem rs_var (h : r[i]? = some (some d)) (q : Q d) : Rs (dVar i r) Q E := by unfold dVar; rw [h]; exact q
theorem rs_c (q : Q d) : Rs (dC d r) Q E := q
theorem rs_op {g : D → D → Res D} (h : Rs (f1 r) (fun a => Rs (f2 r) (fun b => Rs (g a b) Q E) E) E) : Rs (dOp g f1 f2 r) Q E := Rs.bind (h.impE (fun a q => Rs.bind q) fun _ _ _ z => z)
theorem rs_str {g : D → D → Res D} (h : Rs (f1 r) (fun a => Rs (asS a) (fun _ => Rs (f2 r) (fun b => Rs (g a b) Q E) E) E) E) : Rs (dStr g f1 f2 r) Q E := Rs.bind (h.impE (fun a q => Rs.bind (q.impE (fun _ q => Rs.bind q) fun _ _ _ z => z)) fun _ _ _ z => z)
theorem rs_asS {z : Str} {Q : Str → Prop} (q : Q z) : Rs (asS (.str z)) Q E := q
theorem rs_un {g : D → Res D} (h : Rs (f r) (fun a => Rs (g a) Q E) E) : Rs (dUn g f r) Q E := Rs.bind h
theorem rs_nil {Q : List D → Prop} (q : Q []) : Rs (dNil r) Q E := q
theorem rs_cons {Q : List D → Prop} (h : Rs (f r) (fun x => Rs (fs r) (fun xs => Q (x :: xs)) E) E) : Rs (dCons f fs r) Q E := Rs.bind (h.impE (fun a q => Rs.bind q) fun _ _ _ z => z)
theorem rs_call {g : List D → Res D} (h : Rs (fs r) (fun ds => Rs (g ds) Q E) E) : Rs (dCall g fs r) Q E := Rs.bind h
theorem rs_tup (h : Rs (fs r) (fun ds => ds.length ≤ sizeLine ∧ Q (.tup ds)) E) : Rs (dTup fs r) Q E := Rs.bind (h.impE (fun ds q => rs_guard q.1 q.2) fun _ _ _ z => z)
theorem rs_lst (h : Rs (fs r) (fun ds => ds.length ≤ sizeLine ∧ Q (.lst ds)) E) : Rs (dLst fs r) Q E := Rs.bind (h.impE (fun ds q => rs_guard q.1 q.2) fun _ _ _ z => z)
theorem rs_T {Q : Bool → Prop} (h : Rs (f r) (fun d => Rs (asB d) Q E) E) : Rs (dT f r) Q E := Rs.bind h
theorem rs_asB {b : Bool} {Q : Bool → Prop} (q : Q b) : Rs (asB (.bl b)) Q E := q
theorem rs_asI {b : Int} {Q : Int → Prop} (q : Q b) : Rs (asI (.int b)) Q E := q
theorem rs_not {Q : Bool → Prop} (h : Rs (t r) (fun b => Q (!b)) E) : Rs (dNot t r) Q E := Rs.bind h
theorem rs_and {Q : Bool → Prop} (h : Rs (t r) (fun a => Rs (u r) (fun b => Q (a && b)) nE) E) : Rs (dAnd t u r) Q E := Rs.bind (h.impE (fun a q => by
  cases a
  · obtain ⟨b, _, q⟩ := q.get
    exact q
  · exact q.impE (fun _ z => z) fun _ _ _ z => z.elim) fun _ _ _ z => z)
theorem rs_or {Q : Bool → Prop} (h : Rs (t r) (fun a => Rs (u r) (fun b => Q (a || b)) nE) E) : Rs (dOr t u r) Q E := Rs.bind (h.impE (fun a q => by
  cases a
  · exact q.impE (fun _ z => z) fun _ _ _ z => z.elim
  · obtain ⟨b, _, q⟩ := q.get
    exact q) fun _ _ _ z => z)
theorem rs_andc {Q : Bool → Prop} (h : Rs (t r) (fun a => (a = true → Rs (u r) Q E) ∧ (a = false → Q false)) E) : Rs (dAnd t u r) Q E := Rs.bind (h.impE (fun a q => by
  cases a
  · exact q.2 rfl
  · exact q.1 rfl) fun _ _ _ z => z)
theorem rs_orc {Q : Bool → Prop} (h : Rs (t r) (fun a => (a = true → Q true) ∧ (a = false → Rs (u r) Q E)) E) : Rs (dOr t u r) Q E := Rs.bind (h.impE (fun a q => by
  cases a
  · exact q.2 rfl
  · exact q.1 rfl) fun _ _ _ z => z)
theorem rs_andV (h : Rs (f1 r) (fun a => Rs (asB a) (fun a => Rs (f2 r) (fun b => Rs (asB b) (fun b => Q (.bl (a && b))) nE) nE) E) E) : Rs (dAndV f1 f2 r) Q E := Rs.bind (h.impE (fun a q => Rs.bind (q.impE (fun a q => by
  obtain ⟨b, e, q⟩ := q.get
  cases b with
  | bl b =>
    cases a
    · exact q
    · exact Rs.of e q
  | _ => exact q.elim) fun _ _ _ z => z)) fun _ _ _ z => z)
theorem rs_orV (h : Rs (f1 r) (fun a => Rs (asB a) (fun a => Rs (f2 r) (fun b => Rs (asB b) (fun b => Q (.bl (a || b))) nE) nE) E) E) : Rs (dOrV f1 f2 r) Q E := Rs.bind (h.impE (fun a q => Rs.bind (q.impE (fun a q => by
  obtain ⟨b, e, q⟩ := q.get
  cases b with
  | bl b =>
    cases a
    · exact Rs.of e q
    · exact q
  | _ => exact q.elim) fun _ _ _ z => z)) fun _ _ _ z => z)
theorem rs_andVc (h : Rs (f1 r) (fun a => Rs (asB a) (fun a => (a = true → Rs (f2 r) Q E) ∧ (a = false → Q (.bl false))) E) E) : Rs (dAndV f1 f2 r) Q E := Rs.bind (h.impE (fun a q => Rs.bind (q.impE (fun a q => by
  cases a
  · exact q.2 rfl
  · exact q.1 rfl) fun _ _ _ z => z)) fun _ _ _ z => z)
theorem rs_orVc (h : Rs (f1 r) (fun a => Rs (asB a) (fun a => (a = true → Q (.bl true)) ∧ (a = false → Rs (f2 r) Q E)) E) E) : Rs (dOrV f1 f2 r) Q E := Rs.bind (h.impE (fun a q => Rs.bind (q.impE (fun a q => by
  cases a
  · exact q.2 rfl
  · exact q.1 rfl) fun _ _ _ z => z)) fun _ _ _ z => z)
theorem rs_notV (h : Rs (f r) (fun a => Rs (asB a) (fun b => Q (.bl (!b))) E) E) : Rs (dNotV f r) Q E := Rs.bind (h.impE (fun a q => Rs.bind q) fun _ _ _ z => z)
theorem rs_ifx {α : Type} {Q : α → Prop} {f g : Rho → Res α} (h : Rs (t r) (fun b => (b = true → Rs (f r) Q E) ∧ (b = false → Rs (g r) Q E)) E) : Rs (dIf t f g r) Q E := Rs.bind (h.impE (fun a q => by
  cases a
  · exact q.2 rfl
  · exact q.1 rfl) fun _ _ _ z => z)
theorem rs_tru {Q : Bool → Prop} (h : Rs (f r) (fun d => Rs (truB d) Q E) E) : Rs (dTru f r) Q E := Rs.bind h
theorem rs_truB {b : Bool} {Q : Bool → Prop} (q : Q b) : Rs (truB (.bl b)) Q E := q
theorem rs_truI {b : Int} {Q : Bool → Prop} (q : Q (b != 0)) : Rs (truB (.int b)) Q E := q
theorem rs_truL {ds : List D} {Q : Bool → Prop} (q : Q (!ds.isEmpty)) : Rs (truB (.lst ds)) Q E := q
theorem rs_truT {ds : List D} {Q : Bool → Prop} (q : Q (!ds.isEmpty)) : Rs (truB (.tup ds)) Q E := q
theorem rs_truN {Q : Bool → Prop} (q : Q false) : Rs (truB .non) Q E := q
theorem rs_chain {g g' : D → D → Res D} (h : Rs (f1 r) (fun x => Rs (f2 r) (fun y => Rs (g x y) (fun z => Rs (asB z) (fun a => Rs (f3 r) (fun w => Rs (g' y w) (fun e => Rs (asB e) (fun b => Q (.bl (a && b))) nE) nE) nE) E) E) E) E) : Rs (dChain g g' f1 f2 f3 r) Q E :=
  Rs.bind (h.impE (fun x q => Rs.bind (q.impE (fun y q => Rs.bind (q.impE (fun z q => Rs.bind (q.impE (fun a q => by
    obtain ⟨w, e1, q⟩ := q.get
    obtain ⟨e, e2, q⟩ := q.get
    cases e with
    | bl b =>
      cases a
      · exact q
      · exact Rs.bind (Rs.of e1 (Rs.of e2 q))
    | _ => exact q.elim) fun _ _ _ z => z)) fun _ _ _ z => z)) fun _ _ _ z => z)) fun _ _ _ z => z)
theorem rs_noP {Q : Option Int → Prop} (q : Q none) : Rs (dNoP r) Q E := q
theorem rs_part {Q : Option Int → Prop} (h : Rs (f r) (fun d => Rs (asI d) (fun i => Q (some i)) E) E) : Rs (dPart f r) Q E := Rs.bind (h.impE (fun a q => Rs.bind q) fun _ _ _ z => z)
theorem rs_sl {g : D → Option Int → Option Int → Res D} {fl fh : Rho → Res (Option Int)} (h : Rs (f r) (fun d => Rs (fl r) (fun l => Rs (fh r) (fun k => Rs (g d l k) Q E) E) E) E) : Rs (dSl g f fl fh r) Q E := Rs.bind (h.impE (fun a q => Rs.bind (q.impE (fun _ q => Rs.bind q) fun _ _ _ z => z)) fun _ _ _ z => z)
theorem rs_it {g : D → Res (List D)} {Q : List D → Prop} (h : Rs (f r) (fun d => Rs (g d) Q E) E) : Rs (dIt g f r) Q E := Rs.bind h
theorem rs_its {g : List D → Res (List D)} {Q : List D → Prop} (h : Rs (fs r) (fun d => Rs (g d) Q E) E) : Rs (dIts g fs r) Q E := Rs.bind h
theorem rs_yes {Q : Bool → Prop} (q : Q true) : Rs (dYes r) Q E := q
theorem rs_meth {n m : Str} {F : List D → Res D} (h : Rs (f r) (fun x => Rs (isObj n m x) (fun _ => Rs (fs r) (fun ds => Rs (F (x :: ds)) Q E) E) E) E) : Rs (dMeth n m F f fs r) Q E := Rs.bind (h.impE (fun a q => Rs.bind (q.impE (fun _ q => Rs.bind q) fun _ _ _ z => z)) fun _ _ _ z => z)
theorem rs_isObj {n m : Str} {ns : List Str} {vs : List D} {Q : Unit → Prop} (h : m ∉ ns) (q : Q ()) : Rs (isObj n m (.obj n ns vs)) Q E := by
  show Rs (if n = n ∧ m ∉ ns then .ok () else .bad) Q E
  rw [if_pos ⟨rfl, h⟩]; exact q
theorem rs_fld {n fl : Str} {ns : List Str} {vs : List D} (h : lookF ns vs fl = some d) (q : Q d) : Rs (fldD n fl (.obj n ns vs)) Q E := by
  show Rs (if n = n then (match lookF ns vs fl with | some d => .ok d | none => .bad) else .bad) Q E
  rw [if_pos rfl, h]; exact q
end
abbrev Sg (l : List Nat) : Str := ⟨l.toArray⟩
theorem ST_len (l : List Nat) : (Sg l).length = l.length := by simp [Sg, Str.length]
theorem ST_app (a b : List Nat) : Sg a ++ Sg b = Sg (a ++ b) := TL.ext_tl (by rw [TL.tl_append])
theorem ST_inj {a b : List Nat} : Sg a = Sg b ↔ a = b := ⟨fun h => congrArg TL.tl h, fun h => by rw [h]⟩
theorem ST_dec (a b : List Nat) : decide (Sg a = Sg b) = decide (a = b) := by
  by_cases h : a = b
  · subst h; simp
  · simp [h, ST_inj]
section
variable {Q : D → Prop} {E : Str → List Str → List D → Prop} {i j : Int} {a b : List Nat} {ds es : List D} {d e : D}
theorem rs_add (q : Q (.int (i + j))) : Rs (addD (.int i) (.int j)) Q E := q
theorem rs_addS (h : a.length + b.length ≤ sizeLine) (q : Q (.str (Sg (a ++ b)))) : Rs (addD (.str (Sg a)) (.str (Sg b))) Q E := rs_guard (by rw [ST_len, ST_len]; exact h) (by rw [ST_app]; exact q)
theorem rs_addT (h : ds.length + es.length ≤ sizeLine) (q : Q (.tup (ds ++ es))) : Rs (addD (.tup ds) (.tup es)) Q E := rs_guard h q
theorem rs_addLL (h : ds.length + es.length ≤ sizeLine) (q : Q (.lst (ds ++ es))) : Rs (addD (.lst ds) (.lst es)) Q E := rs_guard h q
theorem rs_addLO (h : ds.length + es.length ≤ sizeLine) (q : Q (.lst (ds ++ es))) : Rs (addL (.lst ds) (.lst es)) Q E := rs_guard h q
theorem rs_sub (q : Q (.int (i - j))) : Rs (subD (.int i) (.int j)) Q E := q
theorem rs_neg (q : Q (.int (-i))) : Rs (negD (.int i)) Q E := q
theorem rs_mul (h : smallI i ∨ smallI j) (q : Q (.int (i * j))) : Rs (mulX (.int i) (.int j)) Q E := rs_guard h q
theorem rs_mulS (h : j < 2 ^ 60 ∧ -(2 ^ 60) < j ∧ a.length * j.toNat ≤ sizeLine) (q : Q (.str (Sg (List.replicate j.toNat a).flatten))) : Rs (mulX (.str (Sg a)) (.int j)) Q E := rs_guard (by rw [ST_len]; exact h) q
theorem rs_mulL (h : 0 ≤ j ∧ j < 2 ^ 60 ∧ ds.length * j.toNat ≤ sizeLine) (q : Q (.lst (List.replicate j.toNat ds).flatten)) : Rs (mulX (.lst ds) (.int j)) Q E := rs_guard h q
theorem rs_fdiv (h : 0 < j ∧ j < 4611686018427387904) (q : Q (.int (i / j))) : Rs (fdivD (.int i) (.int j)) Q E := by
  show Rs (if 0 < j then guard (j < 4611686018427387904) (.ok (.int (i / j))) else _) Q E
  rw [if_pos h.1]; exact rs_guard h.2 q
theorem rs_mod (h : 0 < j) (q : Q (.int (i % j))) : Rs (modD (.int i) (.int j)) Q E := rs_guard h q
theorem rs_eqI (q : Q (.bl (decide (i = j)))) : Rs (eqD (.int i) (.int j)) Q E := q
theorem rs_neI (q : Q (.bl (!decide (i = j)))) : Rs (neD (.int i) (.int j)) Q E := q
theorem rs_eqS (q : Q (.bl (decide (a = b)))) : Rs (eqD (.str (Sg a)) (.str (Sg b))) Q E := by
  show Q (.bl (decide (Sg a = Sg b)))
  rw [ST_dec]; exact q
theorem rs_neS (q : Q (.bl (!decide (a = b)))) : Rs (neD (.str (Sg a)) (.str (Sg b))) Q E := by
  show Q (.bl (!decide (Sg a = Sg b)))
  rw [ST_dec]; exact q
theorem rs_eqB {x y : Bool} (q : Q (.bl (decide (x = y)))) : Rs (eqD (.bl x) (.bl y)) Q E := q
theorem rs_neB {x y : Bool} (q : Q (.bl (!decide (x = y)))) : Rs (neD (.bl x) (.bl y)) Q E := q
theorem rs_lt (q : Q (.bl (decide (i < j)))) : Rs (ltD (.int i) (.int j)) Q E := q
theorem rs_le (q : Q (.bl (decide (i ≤ j)))) : Rs (leD (.int i) (.int j)) Q E := q
theorem rs_gt (q : Q (.bl (decide (j < i)))) : Rs (gtD (.int i) (.int j)) Q E := q
theorem rs_ge (q : Q (.bl (decide (j ≤ i)))) : Rs (geD (.int i) (.int j)) Q E := q
theorem rs_is (q : Q (.bl (isN d))) : Rs (isD false d .non) Q E := q
theorem rs_isn (q : Q (.bl (!isN d))) : Rs (isD true d .non) Q E := q
theorem rs_inS {n : Nat} (q : Q (.bl (decide (n ∈ b)))) : Rs (inD (.str (Sg [n])) (.str (Sg b))) Q E := q
theorem rs_ninS {n : Nat} (q : Q (.bl (!decide (n ∈ b)))) : Rs (ninD (.str (Sg [n])) (.str (Sg b))) Q E := q
theorem rs_lenS (h : a.length ≤ sizeLine) (q : Q (.int a.length)) : Rs (g1 lenD [.str (Sg a)]) Q E := rs_guard (by rw [ST_len]; exact h) (by show Q _; rw [ST_len]; exact q)
theorem rs_lenL (q : Q (.int ds.length)) : Rs (g1 lenD [.lst ds]) Q E := q
theorem rs_lenF (q : Q (.int ds.length)) : Rs (g1 lenD [.fz ds]) Q E := q
theorem rs_lenT (q : Q (.int ds.length)) : Rs (g1 lenD [.tup ds]) Q E := q
theorem rs_int (q : Q (.int i)) : Rs (g1 intD [.int i]) Q E := q
theorem rs_intB {x : Bool} (q : Q (.int (if x then 1 else 0))) : Rs (g1 intD [.bl x]) Q E := q
theorem rs_abs (q : Q (.int (if i < 0 then -i else i))) : Rs (g1 absD [.int i]) Q E := q
theorem rs_listL (q : Q (.lst ds)) : Rs (g1 listD [.lst ds]) Q E := q
theorem rs_listT (q : Q (.lst ds)) : Rs (g1 listD [.tup ds]) Q E := q
theorem rs_tupL (q : Q (.tup ds)) : Rs (g1 tupleD [.lst ds]) Q E := q
theorem rs_tupT (q : Q (.tup ds)) : Rs (g1 tupleD [.tup ds]) Q E := q
theorem rs_ixL (h : atI ds i = some d) (q : Q d) : Rs (ixD (.lst ds) (.int i)) Q E := by
  show Rs (match atI ds i with | some d => Res.ok d | none => Res.bad) Q E
  rw [h]; exact q
theorem rs_ixF (h : atI ds i = some d) (q : Q d) : Rs (ixD (.fz ds) (.int i)) Q E := by
  show Rs (match atI ds i with | some d => Res.ok d | none => Res.bad) Q E
  rw [h]; exact q
theorem rs_ixT (h : atI ds i = some d) (q : Q d) : Rs (ixD (.tup ds) (.int i)) Q E := by
  show Rs (match atI ds i with | some d => Res.ok d | none => Res.bad) Q E
  rw [h]; exact q
theorem rs_ixS {n : Nat} (h : a.length ≤ sizeLine ∧ atI a i = some n) (q : Q (.str (Sg [n]))) : Rs (ixD (.str (Sg a)) (.int i)) Q E := rs_guard (by rw [ST_len]; exact h.1) (by
  show Rs (match atI a i with | some n => Res.ok (D.str ⟨#[n]⟩) | none => Res.bad) Q E
  rw [h.2]; exact q)
theorem rs_slL {lo hi : Option Int} (q : Q (.lst (cutL ds lo hi))) : Rs (slD (.lst ds) lo hi) Q E := q
theorem rs_slO {lo hi : Option Int} (q : Q (.lst (cutL ds lo hi))) : Rs (slL (.lst ds) lo hi) Q E := q
theorem rs_slT {lo hi : Option Int} (q : Q (.tup (cutL ds lo hi))) : Rs (slD (.tup ds) lo hi) Q E := q
theorem cutS_ST {lo hi : Option Int} : cutS (Sg a) lo hi = Sg (cutL a lo hi) := by
  unfold cutS cutL
  rw [ST_len]
theorem rs_slS {lo hi : Option Int} (h : a.length ≤ sizeLine) (q : Q (.str (Sg (cutL a lo hi)))) : Rs (slD (.str (Sg a)) lo hi) Q E := rs_guard (by rw [ST_len]; exact h) (by rw [cutS_ST]; exact q)
theorem rs_rng1 {n : Nat} {Q : List D → Prop} (h : n < 4611686018427387904) (q : Q (rngL 0 n)) : Rs (rng1 [.int (n : Int)]) Q E := rs_guard (by omega) (by rw [Int.toNat_natCast]; exact q)
theorem rs_rng2 {Q : List D → Prop} (h : -4611686018427387904 ≤ i ∧ i < 4611686018427387904 ∧ -4611686018427387904 ≤ j ∧ j < 4611686018427387904) (q : Q (rngL i (j - i).toNat)) : Rs (rng2 [.int i, .int j]) Q E := rs_guard h q
theorem rs_itsL {Q : List D → Prop} (q : Q ds) : Rs (itemsL (.lst ds)) Q E := q
theorem rs_itsT {Q : List D → Prop} (q : Q ds) : Rs (itemsT (.tup ds)) Q E := q
theorem rs_itsS {Q : List D → Prop} (q : Q (a.map fun n => .str (Sg [n]))) : Rs (itemsS (.str (Sg a))) Q E := q
theorem rs_enL {Q : List D → Prop} (q : Q (numd 0 ds)) : Rs (enumL (.lst ds)) Q E := q
theorem rs_enT {Q : List D → Prop} (q : Q (numd 0 ds)) : Rs (enumT (.tup ds)) Q E := q
theorem rs_enS {Q : List D → Prop} (q : Q (numd 0 (a.map fun n => .str (Sg [n])))) : Rs (enumS (.str (Sg a))) Q E := q
theorem rs_isi {T n : String} {b : Bool} (h1 : tyN d = some n) (h2 : kitB n T = some b) (q : Q (.bl b)) : Rs (isiD T d) Q E := by unfold isiD; rw [h1]; dsimp only; rw [h2]; exact q
end
section
variable {N B C : Rho → Prop} {R : D → Prop} {E : Rho → Str → List Str → List D → Prop} {r : Rho} {f f1 f2 fi : Rho → Res D} {fs : Rho → Res (List D)} {t : Rho → Res Bool} {d : D} {F K : Rho → SR} {i j : Nat}
theorem Ss.imp {N' B' C' : Rho → Prop} {R' : D → Prop} {E' : Rho → Str → List Str → List D → Prop} {o : SR} (h : Ss o N R B C E) (hn : ∀ r, N r → N' r) (hr : ∀ d, R d → R' d) (hb : ∀ r, B r → B' r) (hc : ∀ r, C r → C' r) (he : ∀ r n ns vs, E r n ns vs → E' r n ns vs) : Ss o N' R' B' C' E' := by
  cases o with
  | nx r => exact hn _ h
  | rt d => exact hr _ h
  | bk r => exact hb _ h
  | ct r => exact hc _ h
  | er r n ns vs => exact he _ _ _ _ h
  | bad => exact h
theorem ss_nx (h : N r) : Ss (.nx r) N R B C E := h
theorem ss_bk (h : B r) : Ss (.bk r) N R B C E := h
theorem ss_ct (h : C r) : Ss (.ct r) N R B C E := h
theorem ss_lift {α : Type} {x : Res α} {k : α → SR} (h : Rs x (fun a => Ss (k a) N R B C E) (E r)) : Ss (liftS r x k) N R B C E := by
  cases x with
  | ok a => exact h
  | err n ns vs => exact h
  | bad => exact h
theorem ss_seq (h : Ss (F r) (fun r' => Ss (K r') N R B C E) R B C E) : Ss (seqF F K r) N R B C E := by
  unfold seqF
  cases e : F r with
  | nx r' => rw [e] at h; exact h
  | rt d => rw [e] at h; exact h
  | bk r => rw [e] at h; exact h
  | ct r => rw [e] at h; exact h
  | er r n ns vs => rw [e] at h; exact h
  | bad => rw [e] at h; exact h
theorem ss_set (h : Rs (f r) (fun d => N (r.set i (some d))) (E r)) : Ss (setF i f r) N R B C E := ss_lift h
theorem ss_ret (h : Rs (f r) R (E r)) : Ss (retF f r) N R B C E := ss_lift h
theorem ss_drop (h : Rs (f r) (fun _ => N r) (E r)) : Ss (dropF f r) N R B C E := ss_lift h
theorem ss_if (h : Rs (t r) (fun b => (b = true → Ss (F r) N R B C E) ∧ (b = false → Ss (K r) N R B C E)) (E r)) : Ss (ifF t F K r) N R B C E := ss_lift (h.impE (fun b q => by
  cases b
  · exact q.2 rfl
  · exact q.1 rfl) fun _ _ _ z => z)
theorem ss_app {ds : List D} (h1 : r[i]? = some (some (.lst ds))) (h : Rs (f r) (fun d => ds.length < sizeLine ∧ N (r.set i (some (.lst (ds ++ [d]))))) (E r)) : Ss (appF i f r) N R B C E := by
  unfold appF
  refine ss_lift (Rs.of (a := ds) (by unfold ownL; rw [h1]) (ss_lift (h.impE (fun d q => ?_) fun _ _ _ z => z)))
  rw [guardS_pos q.1]; exact q.2
theorem ss_asg {tg : D → Rho → Res Rho} (h : Rs (f r) (fun d => ∃ r', tg d r = .ok r' ∧ N r') (E r)) : Ss (asgF tg f r) N R B C E := ss_lift (h.impE (fun d q => by
  obtain ⟨r', e, q⟩ := q
  rw [e]; exact q) fun _ _ _ z => z)
theorem ss_par (h : Rs (f1 r) (fun d => Rs (f2 r) (fun e => N ((r.set i (some d)).set j (some e))) (E r)) (E r)) : Ss (parF i j f1 f2 r) N R B C E := ss_lift (rs_cons (h.impE (fun d q => rs_cons (q.impE (fun e q => rs_nil q) fun _ _ _ z => z)) fun _ _ _ z => z))
theorem ss_aug {g : D → D → Res D} (h : Rs (dVar i r) (fun x => Rs (f r) (fun y => Rs (g x y) (fun z => N (r.set i (some z))) (E r)) (E r)) (E r)) : Ss (augF i g f r) N R B C E := ss_lift (h.impE (fun x q => ss_lift (q.impE (fun y q => ss_lift q) fun _ _ _ z => z)) fun _ _ _ z => z)
theorem rs_ints {g : Int → Int → Int} {Q : D → Prop} {E : Str → List Str → List D → Prop} {i j : Int} (q : Q (.int (g i j))) : Rs (intsD g (.int i) (.int j)) Q E := q
theorem ss_raise {n : Str} {ns : List Str} {rev : Bool} (h : Rs (fs r) (fun ds => ds.length = ns.length ∧ E r n ns (if rev then ds.reverse else ds)) (E r)) : Ss (raiF n ns rev fs r) N R B C E := ss_lift (h.impE (fun ds q => by
  rw [if_pos q.1]; exact q.2) fun _ _ _ z => z)
theorem ss_sto {ds : List D} {k : Int} {n : Nat} (h : Rs (f r) (fun d => r[i]? = some (some (.lst ds)) ∧ Rs (fi r) (fun x => x = .int k ∧ ixN ds.length k = some n ∧ N (r.set i (some (.lst (ds.set n d))))) (E r)) (E r)) : Ss (stoF i fi f r) N R B C E := ss_lift (h.impE (fun d q => ss_lift (Rs.of (a := ds) (by unfold ownL; rw [q.1]) (ss_lift (q.2.impE (fun x q => by
  obtain ⟨rfl, h2, h3⟩ := q
  refine ss_lift ?_
  show Ss (match ixN ds.length k with | some j => SR.nx (r.set i (some (.lst (ds.set j d)))) | none => .bad) N R B C E
  rw [h2]; exact h3) fun _ _ _ z => z)))) fun _ _ _ z => z)
theorem ss_fst {n fl : Str} {ns : List Str} {vs : List D} (h : Rs (f r) (fun d => r[i]? = some (some (.obj n ns vs)) ∧ ns.length < 1000 ∧ N (r.set i (some (.obj n (putN fl d ns vs).1 (putN fl d ns vs).2)))) (E r)) : Ss (fstF i n fl f r) N R B C E := ss_lift (h.impE (fun d q => by
  rw [q.1]
  show Ss (if n = n ∧ ns.length < 1000 then _ else _) N R B C E
  rw [if_pos ⟨rfl, q.2.1⟩]; exact q.2.2) fun _ _ _ z => z)
theorem ss_cut {N' : Rho → Prop} {o : SR} (M : Rho → Prop) (h : Ss o M R B C E) (k : ∀ r, M r → N' r) : Ss o N' R B C E := h.imp k (fun _ z => z) (fun _ z => z) (fun _ z => z) fun _ _ _ _ z => z
theorem ss_loop {tg : D → Rho → Res Rho} (I : Nat → Rho → Prop) : ∀ (ds : List D) (k : Nat) (r : Rho), I k r →
    (∀ i d r, ds[i]? = some d → I (k + i) r → ∃ r1, tg d r = .ok r1 ∧ Ss (F r1) (I (k + i + 1)) R N (I (k + i + 1)) E) → (∀ r, I (k + ds.length) r → N r) → Ss (loopF tg F ds r) N R B C E
  | [], k, r, h0, _, he => he r h0
  | d :: ds, k, r, h0, hs, he => by
    obtain ⟨r1, e1, h1⟩ := hs 0 d r rfl h0
    have go : ∀ r2, I (k + 1) r2 → Ss (loopF tg F ds r2) N R B C E := fun r2 h2 => ss_loop I ds (k + 1) r2 h2 (fun i d r h hi => by
      have z := hs (i + 1) d r (by simpa using h) (by rw [show k + (i + 1) = k + 1 + i from by omega]; exact hi)
      rw [show k + (i + 1) = k + 1 + i from by omega] at z
      exact z) fun r h => he r (by rw [List.length_cons, show k + (ds.length + 1) = k + 1 + ds.length from by omega]; exact h)
    rw [loopF, e1]
    dsimp only
    cases e : F r1 with
    | nx r2 => rw [e] at h1; exact go r2 h1
    | ct r2 => rw [e] at h1; exact go r2 h1
    | bk r2 => rw [e] at h1; exact h1
    | rt d => rw [e] at h1; exact h1
    | er r n ns vs => rw [e] at h1; exact h1
    | bad => rw [e] at h1; exact h1
/-- a for, by an invariant at each number of items -/
theorem ss_for {its : Rho → Res (List D)} {tg : D → Rho → Res Rho} (I : Nat → Rho → Prop) (h : Rs (its r) (fun ds => I 0 r ∧ (∀ i d r, ds[i]? = some d → I i r → ∃ r1, tg d r = .ok r1 ∧ Ss (F r1) (I (i + 1)) R N (I (i + 1)) E) ∧ ∀ r, I ds.length r → N r) (E r)) : Ss (forF its tg F r) N R B C E :=
  ss_lift (h.impE (fun ds q => ss_loop I ds 0 r q.1 (fun i d r h1 h2 => by
    have z := q.2.1 i d r h1 (by rw [Nat.zero_add] at h2; exact h2)
    rw [Nat.zero_add]; exact z) fun r h => q.2.2 r (by rw [Nat.zero_add] at h; exact h)) fun _ _ _ z => z)
theorem rngL_get {a : Int} {n i : Nat} {d : D} (h : (rngL a n)[i]? = some d) : i < n ∧ d = .int (a + (i : Int)) := by
  unfold rngL at h
  rw [List.getElem?_map] at h
  by_cases hi : i < n
  · rw [List.getElem?_range hi] at h
    cases h
    exact ⟨hi, rfl⟩
  · rw [List.getElem?_eq_none (by simp; omega)] at h
    cases h
theorem rngL_len (a : Int) (n : Nat) : (rngL a n).length = n := by unfold rngL; simp
/-- for k in range(n) -/
theorem ss_rng {m : Nat} (n : Nat) (I : Nat → Rho → Prop) (h : Rs (f r) (fun d => d = .int (n : Int)) (E r)) (hn : n < 4611686018427387904) (h0 : I 0 r) (hs : ∀ i r, i < n → I i r → Ss (F (r.set m (some (.int (i : Int))))) (I (i + 1)) R N (I (i + 1)) E) (he : ∀ r, I n r → N r) : Ss (forF (dIts rng1 (dCons f dNil)) (tgN m) F r) N R B C E :=
  ss_for I (rs_its (rs_cons (h.impE (fun d q => by
    subst q
    refine rs_nil (rs_rng1 hn ⟨h0, fun i d r h1 h2 => ?_, fun r h => he r (by rw [rngL_len] at h; exact h)⟩)
    obtain ⟨h3, rfl⟩ := rngL_get h1
    exact ⟨_, rfl, by rw [Int.zero_add]; exact hs i r h3 h2⟩) fun _ _ _ z => z)))
/-- for k in range(a, n) -/
theorem ss_rng2 {m : Nat} (a n : Nat) (I : Nat → Rho → Prop) (h1 : Rs (f1 r) (fun d => d = .int (a : Int)) (E r)) (h2 : Rs (f2 r) (fun d => d = .int (n : Int)) (E r)) (ha : a < 4611686018427387904) (hn : n < 4611686018427387904) (h0 : I 0 r) (hs : ∀ i r, a + i < n → I i r → Ss (F (r.set m (some (.int ((a + i : Nat) : Int))))) (I (i + 1)) R N (I (i + 1)) E) (he : ∀ r, I (n - a) r → N r) : Ss (forF (dIts rng2 (dCons f1 (dCons f2 dNil))) (tgN m) F r) N R B C E :=
  ss_for I (rs_its (rs_cons (h1.impE (fun d q => by
    subst q
    refine rs_cons (h2.impE (fun d q => ?_) fun _ _ _ z => z)
    subst q
    have e : ((n : Int) - (a : Int)).toNat = n - a := by omega
    refine rs_nil (rs_rng2 (by omega) ⟨h0, fun i d r h1 h2 => ?_, fun r h => he r (by rw [rngL_len, e] at h; exact h)⟩)
    obtain ⟨h3, rfl⟩ := rngL_get h1
    rw [e] at h3
    refine ⟨_, rfl, ?_⟩
    have := hs i r (by omega) h2
    rw [Int.natCast_add] at this
    exact this) fun _ _ _ z => z)))
/-- for x in xs -/
theorem ss_each {α : Type} {m : Nat} (g : α → D) (xs : List α) (I : Nat → Rho → Prop) (h : Rs (f r) (fun d => d = .lst (xs.map g)) (E r)) (h0 : I 0 r) (hs : ∀ i x r, xs[i]? = some x → I i r → Ss (F (r.set m (some (g x)))) (I (i + 1)) R N (I (i + 1)) E) (he : ∀ r, I xs.length r → N r) : Ss (forF (dIt itemsL f) (tgN m) F r) N R B C E :=
  ss_for I (rs_it (h.impE (fun d q => by
    subst q
    refine rs_itsL ⟨h0, fun i d r h1 h2 => ?_, fun r h => he r (by rw [List.length_map] at h; exact h)⟩
    rw [List.getElem?_map] at h1
    cases hx : xs[i]? with
    | none => rw [hx] at h1; cases h1
    | some x => rw [hx] at h1; cases h1; exact ⟨_, rfl, hs i x r hx h2⟩) fun _ _ _ z => z))
end
section
variable {Q : D → Prop} {E : Str → List Str → List D → Prop} {r : Rho} {f : Rho → Res D} {its : Rho → Res (List D)} {tg : D → Rho → Res Rho} {tt : Rho → Res Bool} {fe : Rho → Res D} {vs : List Nat}
theorem lc_mapX {α : Type} (c g : α → D) {rw : Rho} : ∀ xs : List α, (∀ x ∈ xs, ∃ r1, tg (c x) rw = .ok r1 ∧ tt r1 = .ok true ∧ Rs (fe r1) (fun e => e = g x) nE) → lcLoop tg tt fe rw (xs.map c) = .ok (xs.map g)
  | [], _ => rfl
  | x :: xs, h => by
    obtain ⟨r1, h1, h2, h3⟩ := h x (by simp)
    rw [List.map_cons, lcLoop, h1]
    dsimp only
    rw [h2]
    dsimp only
    rw [h3.eq]
    dsimp only
    rw [lc_mapX c g xs fun y hy => h y (by simp [hy])]
    rfl
theorem rs_lc {α : Type} (c g : α → D) (xs : List α) (hi : Rs (its r) (fun ds => ds = xs.map c) E) (hl : xs.length ≤ sizeLine) (hs : ∀ x ∈ xs, ∃ r1, tg (c x) (wipeR r vs) = .ok r1 ∧ tt r1 = .ok true ∧ Rs (fe r1) (fun e => e = g x) nE) (q : Q (.lst (xs.map g))) : Rs (dLc its tg tt fe vs r) Q E :=
  Rs.bind (hi.impE (fun ds e => by
    subst e
    refine rs_guard (by rw [List.length_map]; exact hl) ?_
    rw [lc_mapX c g xs hs]; exact q) fun _ _ _ z => z)
theorem rng0_map (n : Nat) : rngL 0 n = (List.range n).map fun (i : Nat) => D.int (i : Int) := by
  unfold rngL
  refine List.map_congr_left fun k _ => ?_
  rw [Int.zero_add]
/-- range(n) as the items of a comprehension -/
theorem rs_rngC {n : Nat} (h : Rs (f r) (fun d => d = .int (n : Int)) E) (hn : n < 4611686018427387904) : Rs (dIts rng1 (dCons f dNil) r) (fun ds => ds = (List.range n).map fun (i : Nat) => D.int (i : Int)) E :=
  rs_its (rs_cons (h.impE (fun d q => by subst q; exact rs_nil (rs_rng1 hn (rng0_map n))) fun _ _ _ z => z))
theorem rs_run {n : Nat} {F : Rho → SR} {as : List D} (h : Ss (F (startR n as)) (fun _ => Q .non) Q nR nR (fun _ => E)) : Rs (runF n false F as) Q E := by
  unfold runF
  cases e : F (startR n as) with
  | nx r => rw [e] at h; exact h
  | rt d => rw [e] at h; exact h
  | bk r => rw [e] at h; exact h.elim
  | ct r => rw [e] at h; exact h.elim
  | er r n ns vs => rw [e] at h; exact h
  | bad => rw [e] at h; exact h.elim
theorem rs_runI {n : Nat} {cls : Str} {F : Rho → SR} {as : List D} (h : Ss (F (startI n cls as)) (fun r => ∃ d, r[0]? = some (some d) ∧ Q d) (fun _ => False) nR nR (fun _ => E)) : Rs (runI n cls F as) Q E := by
  unfold runI
  cases e : F (startI n cls as) with
  | nx r => rw [e] at h; obtain ⟨d, h1, h2⟩ := h; dsimp only; rw [h1]; exact h2
  | rt d => rw [e] at h; exact h.elim
  | bk r => rw [e] at h; exact h.elim
  | ct r => rw [e] at h; exact h.elim
  | er r n ns vs => rw [e] at h; exact h
  | bad => rw [e] at h; exact h.elim
end
end Dx
namespace Dx
open PySem L2
theorem sz5 : (100000 : Nat) ≤ sizeLine := by decide
theorem small_of {i : Int} (h : -1000000000000 < i) (h' : i < 1000000000000) : smallI i := by unfold smallI; omega
def Fit : List Int → List Int → Prop
  | [], [] => True
  | v :: vs, l :: ls => 0 ≤ v ∧ v < l ∧ Fit vs ls
  | _, _ => False
theorem Fit.cons {vs : List Int} {l : Int} {ls : List Int} (h : Fit vs (l :: ls)) : ∃ v us, vs = v :: us ∧ 0 ≤ v ∧ v < l ∧ Fit us ls := by
  cases vs with
  | nil => exact h.elim
  | cons v us => exact ⟨v, us, rfl, h⟩
theorem Fit.nil {vs : List Int} (h : Fit vs []) : vs = [] := by
  cases vs with
  | nil => rfl
  | cons v us => exact h.elim
theorem Fit.len : ∀ {vs ls : List Int}, Fit vs ls → vs.length = ls.length
  | [], [], _ => rfl
  | v :: vs, l :: ls, h => by simp [Fit.len h.2.2]
  | [], _ :: _, h => h.elim
  | _ :: _, [], h => h.elim
theorem Fit.snoc : ∀ {vs ls : List Int} {v l : Int}, Fit vs ls → 0 ≤ v → v < l → Fit (vs ++ [v]) (ls ++ [l])
  | [], [], v, l, _, h1, h2 => ⟨h1, h2, trivial⟩
  | a :: vs, b :: ls, v, l, h, h1, h2 => ⟨h.1, h.2.1, Fit.snoc h.2.2 h1 h2⟩
  | [], _ :: _, _, _, h, _, _ => h.elim
  | _ :: _, [], _, _, h, _, _ => h.elim
theorem Fit.get : ∀ {vs ls : List Int} {k : Nat} {l : Int}, Fit vs ls → ls[k]? = some l → ∃ v, vs[k]? = some v ∧ 0 ≤ v ∧ v < l
  | [], [], _, _, _, h => by simp at h
  | v :: vs, l :: ls, 0, l', h, e => by simp at e; subst e; exact ⟨v, by simp, h.1, h.2.1⟩
  | v :: vs, l :: ls, k + 1, l', h, e => by
    obtain ⟨w, h1, h2⟩ := Fit.get (k := k) h.2.2 (by simpa using e)
    exact ⟨w, by simpa using h1, h2⟩
  | [], _ :: _, _, _, h, _ => h.elim
  | _ :: _, [], _, _, h, _ => h.elim
abbrev iL (ns : List Int) : D := .lst (ns.map D.int)
theorem take_snoc {α : Type} {xs : List α} {i : Nat} {x : α} (h : xs[i]? = some x) : xs.take (i + 1) = xs.take i ++ [x] := by
  rw [List.take_add_one, h]; rfl
end Dx
end S_DxM
section S_DxN
set_option Elab.async false
set_option linter.all false
set_option maxRecDepth 100000
namespace Dx
open PySem L2
def endB (a b : List Nat) : Bool := decide (b.length ≤ a.length) && decide (a.drop (a.length - b.length) = b)
def startB (a b : List Nat) : Bool := decide (b.length ≤ a.length) && decide (a.take b.length = b)
theorem beq_dec (a b : List Nat) : (a == b) = decide (a = b) := by
  by_cases h : a = b
  · subst h; simp
  · simp [h]
theorem end_ST (a b : List Nat) : Txt.endswith (Sg a) (Sg b) = endB a b := by
  unfold Txt.endswith endB
  rw [PySem.StrLaws.subAt_eq, ST_len, ST_len, Nat.zero_add]
  show (decide (b.length ≤ a.length) && ((a.drop (a.length - b.length)).take b.length == b)) = _
  by_cases h : b.length ≤ a.length
  · rw [List.take_of_length_le (by rw [List.length_drop]; omega), beq_dec]
  · rw [decide_eq_false h]; rfl
theorem start_ST (a b : List Nat) : Txt.startswith (Sg a) (Sg b) = startB a b := by
  unfold Txt.startswith startB
  rw [PySem.StrLaws.subAt_eq, ST_len, ST_len, Nat.zero_add]
  show (decide (b.length ≤ a.length) && ((a.drop 0).take b.length == b)) = _
  rw [List.drop_zero, beq_dec]
/-- split at one sign -/
abbrev spc (c : Nat) (a : List Nat) : List (List Nat) := TL.spl [c] 0 [] a
theorem split_ST (a : List Nat) (c : Nat) (hc : c < 256) : Txt.split (Sg a) (Sg [c]) = (spc c a).map Sg := by
  refine TL.map_tl_inj ?_
  rw [TL.split_spl _ _ (by show [c] ≠ []; simp) (TL.kind_ok (by show #[c].all _ = true; simp [hc])), List.map_map]
  show spc c a = _
  rw [show TL.tl ∘ Sg = id from rfl, List.map_id]
theorem allStr_map {α : Type} (g : α → List Nat) : ∀ xs : List α, allStr (xs.map fun x => .str (Sg (g x))) = some (xs.map fun x => Sg (g x))
  | [] => rfl
  | x :: xs => by rw [List.map_cons, allStr, allStr_map g xs]; rfl
theorem joinL_nil : ∀ xs : List (List Nat), TL.joinL [] xs = xs.flatten
  | [] => rfl
  | [a] => by simp [TL.joinL]
  | a :: b :: r => by rw [TL.joinL, List.nil_append, joinL_nil (b :: r)]; rfl
theorem join_ST (s : List Nat) (xs : List (List Nat)) : Txt.join (Sg s) (xs.map Sg) = Sg (TL.joinL s xs) := by
  rw [TL.join_eq]
  refine TL.ext_tl ?_
  rw [TL.tl_join, List.map_map, show TL.tl ∘ Sg = id from rfl, List.map_id]
section
variable {Q : D → Prop} {E : Str → List Str → List D → Prop} {a b : List Nat}
theorem rs_end (q : Q (.bl (endB a b))) : Rs (endD (.str (Sg a)) (.str (Sg b))) Q E := by
  show Q (.bl (Txt.endswith (Sg a) (Sg b)))
  rw [end_ST]; exact q
theorem rs_start (q : Q (.bl (startB a b))) : Rs (startD (.str (Sg a)) (.str (Sg b))) Q E := by
  show Q (.bl (Txt.startswith (Sg a) (Sg b)))
  rw [start_ST]; exact q
theorem rs_split {c : Nat} (h : c < 256 ∧ a.length + 2 ≤ sizeLine) (q : Q (.lst ((spc c a).map fun l => .str (Sg l)))) : Rs (splitD (.str (Sg a)) (.str (Sg [c]))) Q E := by
  refine rs_guard ⟨rfl, by rw [ST_len]; exact h.2⟩ ?_
  show Q (.lst (strsD (Txt.split (Sg a) (Sg [c]))))
  rw [split_ST a c h.1]
  unfold strsD
  rw [List.map_map]; exact q
theorem rs_joinS {α : Type} {g : α → List Nat} {xs : List α} (h : (xs.map fun x => (g x).length).sum ≤ 16777216) (q : Q (.str (Sg (xs.map g).flatten))) : Rs (joinD (.str (Sg [])) (.lst (xs.map fun x => .str (Sg (g x))))) Q E := by
  show Rs (joinZ (Sg []) (allStr (xs.map fun x => .str (Sg (g x))))) Q E
  rw [allStr_map]
  refine rs_guard ?_ ?_
  · rw [List.map_map]
    simp only [ST_len, Function.comp_def, List.length_nil, Nat.mul_zero, Nat.add_zero]
    exact h
  · have := join_ST [] (xs.map g)
    rw [List.map_map, joinL_nil] at this
    show Q (.str (Txt.join (Sg []) (xs.map (Sg ∘ g))))
    rw [this]; exact q
theorem rs_joinC {ns : List Nat} (h : ns.length ≤ 16777216) (q : Q (.str (Sg ns))) : Rs (joinD (.str (Sg [])) (.lst (ns.map fun n => .str (Sg [n])))) Q E := by
  refine rs_joinS (g := fun n => [n]) ?_ ?_
  · have : ∀ l : List Nat, (l.map fun n => ([n] : List Nat).length).sum = l.length := fun l => by
      induction l with
      | nil => rfl
      | cons a l ih => rw [List.map_cons, List.sum_cons, ih, List.length_cons]; simp; omega
    rw [this]; exact h
  · have : ∀ l : List Nat, (l.map fun n => ([n] : List Nat)).flatten = l := fun l => by
      induction l with
      | nil => rfl
      | cons a l ih => rw [List.map_cons, List.flatten_cons, ih]; rfl
    rw [this]; exact q
end
section
variable {Q : D → Prop} {E : Str → List Str → List D → Prop}
theorem rs_isi_non_bool  (q : Q (.bl false)) : Rs (isiD "bool" .non) Q E := rs_isi rfl (by decide +kernel) q
theorem rs_isi_non_int  (q : Q (.bl false)) : Rs (isiD "int" .non) Q E := rs_isi rfl (by decide +kernel) q
theorem rs_isi_non_str  (q : Q (.bl false)) : Rs (isiD "str" .non) Q E := rs_isi rfl (by decide +kernel) q
theorem rs_isi_non_tuple  (q : Q (.bl false)) : Rs (isiD "tuple" .non) Q E := rs_isi rfl (by decide +kernel) q
theorem rs_isi_non_list  (q : Q (.bl false)) : Rs (isiD "list" .non) Q E := rs_isi rfl (by decide +kernel) q
theorem rs_isi_bl_bool {x : Bool} (q : Q (.bl true)) : Rs (isiD "bool" (.bl x)) Q E := rs_isi rfl (by decide +kernel) q
theorem rs_isi_bl_int {x : Bool} (q : Q (.bl true)) : Rs (isiD "int" (.bl x)) Q E := rs_isi rfl (by decide +kernel) q
theorem rs_isi_bl_str {x : Bool} (q : Q (.bl false)) : Rs (isiD "str" (.bl x)) Q E := rs_isi rfl (by decide +kernel) q
theorem rs_isi_bl_tuple {x : Bool} (q : Q (.bl false)) : Rs (isiD "tuple" (.bl x)) Q E := rs_isi rfl (by decide +kernel) q
theorem rs_isi_bl_list {x : Bool} (q : Q (.bl false)) : Rs (isiD "list" (.bl x)) Q E := rs_isi rfl (by decide +kernel) q
theorem rs_isi_int_bool {x : Int} (q : Q (.bl false)) : Rs (isiD "bool" (.int x)) Q E := rs_isi rfl (by decide +kernel) q
theorem rs_isi_int_int {x : Int} (q : Q (.bl true)) : Rs (isiD "int" (.int x)) Q E := rs_isi rfl (by decide +kernel) q
theorem rs_isi_int_str {x : Int} (q : Q (.bl false)) : Rs (isiD "str" (.int x)) Q E := rs_isi rfl (by decide +kernel) q
theorem rs_isi_int_tuple {x : Int} (q : Q (.bl false)) : Rs (isiD "tuple" (.int x)) Q E := rs_isi rfl (by decide +kernel) q
theorem rs_isi_int_list {x : Int} (q : Q (.bl false)) : Rs (isiD "list" (.int x)) Q E := rs_isi rfl (by decide +kernel) q
theorem rs_isi_str_bool {x : Str} (q : Q (.bl false)) : Rs (isiD "bool" (.str x)) Q E := rs_isi rfl (by decide +kernel) q
theorem rs_isi_str_int {x : Str} (q : Q (.bl false)) : Rs (isiD "int" (.str x)) Q E := rs_isi rfl (by decide +kernel) q
theorem rs_isi_str_str {x : Str} (q : Q (.bl true)) : Rs (isiD "str" (.str x)) Q E := rs_isi rfl (by decide +kernel) q
theorem rs_isi_str_tuple {x : Str} (q : Q (.bl false)) : Rs (isiD "tuple" (.str x)) Q E := rs_isi rfl (by decide +kernel) q
theorem rs_isi_str_list {x : Str} (q : Q (.bl false)) : Rs (isiD "list" (.str x)) Q E := rs_isi rfl (by decide +kernel) q
theorem rs_isi_lst_bool {x : List D} (q : Q (.bl false)) : Rs (isiD "bool" (.lst x)) Q E := rs_isi rfl (by decide +kernel) q
theorem rs_isi_lst_int {x : List D} (q : Q (.bl false)) : Rs (isiD "int" (.lst x)) Q E := rs_isi rfl (by decide +kernel) q
theorem rs_isi_lst_str {x : List D} (q : Q (.bl false)) : Rs (isiD "str" (.lst x)) Q E := rs_isi rfl (by decide +kernel) q
theorem rs_isi_lst_tuple {x : List D} (q : Q (.bl false)) : Rs (isiD "tuple" (.lst x)) Q E := rs_isi rfl (by decide +kernel) q
theorem rs_isi_lst_list {x : List D} (q : Q (.bl true)) : Rs (isiD "list" (.lst x)) Q E := rs_isi rfl (by decide +kernel) q
theorem rs_isi_tup_bool {x : List D} (q : Q (.bl false)) : Rs (isiD "bool" (.tup x)) Q E := rs_isi rfl (by decide +kernel) q
theorem rs_isi_tup_int {x : List D} (q : Q (.bl false)) : Rs (isiD "int" (.tup x)) Q E := rs_isi rfl (by decide +kernel) q
theorem rs_isi_tup_str {x : List D} (q : Q (.bl false)) : Rs (isiD "str" (.tup x)) Q E := rs_isi rfl (by decide +kernel) q
theorem rs_isi_tup_tuple {x : List D} (q : Q (.bl true)) : Rs (isiD "tuple" (.tup x)) Q E := rs_isi rfl (by decide +kernel) q
theorem rs_isi_tup_list {x : List D} (q : Q (.bl false)) : Rs (isiD "list" (.tup x)) Q E := rs_isi rfl (by decide +kernel) q
end
theorem cut_take {α : Type} (a : List α) (k : Nat) : cutL a none (some (k : Int)) = a.take k := by
  unfold cutL
  rw [HT.sIx_none, HT.sIx_nat, List.drop_zero, Nat.sub_zero]
  by_cases h : k ≤ a.length
  · rw [Nat.min_eq_left h]
  · rw [Nat.min_eq_right (by omega), List.take_length, List.take_of_length_le (by omega)]
theorem cut_drop {α : Type} (a : List α) (k : Nat) : cutL a (some (k : Int)) none = a.drop k := by
  unfold cutL
  rw [HT.sIx_none, HT.sIx_nat]
  by_cases h : k ≤ a.length
  · rw [Nat.min_eq_left h, List.take_of_length_le (by rw [List.length_drop]; omega)]
  · rw [Nat.min_eq_right (by omega), Nat.sub_self, List.take_zero, List.drop_of_length_le (by omega)]
theorem cut_mid {α : Type} (a : List α) (j k : Nat) : cutL a (some (j : Int)) (some (k : Int)) = (a.take k).drop j := by
  unfold cutL
  rw [HT.sIx_nat, HT.sIx_nat, List.drop_take]
  by_cases h2 : j ≤ a.length
  · rw [Nat.min_eq_left h2]
    by_cases h : k ≤ a.length
    · rw [Nat.min_eq_left h]
    · rw [Nat.min_eq_right (by omega), List.take_of_length_le (by rw [List.length_drop]; omega), List.take_of_length_le (by rw [List.length_drop]; omega)]
  · rw [List.drop_of_length_le (show a.length ≤ j by omega), List.drop_of_length_le (by omega)]
    simp
/-- a[:-k] -/
theorem cut_back {α : Type} (a : List α) (k : Nat) (hk : 0 < k) : cutL a none (some (-(k : Int))) = a.take (a.length - k) := by
  unfold cutL
  have e : HT.sIx a.length a.length (some (-(k : Int))) = a.length - k := by
    show (if -(k : Int) < 0 then (-(k : Int) + (a.length : Int)).toNat else _) = _
    rw [if_pos (by omega)]; omega
  rw [e, HT.sIx_none, List.drop_zero, Nat.sub_zero]
end Dx
end S_DxN
section S_DxQ
set_option Elab.async false
set_option linter.all false
set_option maxRecDepth 100000
namespace Dx
open PySem L2
section
variable {Q : D → Prop} {E : Str → List Str → List D → Prop} {r : Rho} {f f1 : Rho → Res D} {fs : Rho → Res (List D)} {n fl gl : Str} {ns : List Str} {vs ds es : List D} {F : List D → Res D} {x d : D}
theorem rs_star {Q : List D → Prop} (h : Rs (f r) (fun d => Rs (items d) (fun xs => Rs (fs r) (fun ys => Q (xs ++ ys)) E) E) E) : Rs (dStar f fs r) Q E := Rs.bind (h.impE (fun a q => Rs.bind (q.impE (fun _ q => Rs.bind q) fun _ _ _ z => z)) fun _ _ _ z => z)
theorem rs_itemsL {Q : List D → Prop} (q : Q ds) : Rs (items (.lst ds)) Q E := q
theorem rs_itemsT {Q : List D → Prop} (q : Q ds) : Rs (items (.tup ds)) Q E := q
theorem rs_zipL {Q : List D → Prop} (q : Q (pairs ds es)) : Rs (zipL [.lst ds, .lst es]) Q E := q
theorem rs_zipS {a b : List Nat} {Q : List D → Prop} (q : Q (pairs (a.map fun n => .str (Sg [n])) (b.map fun n => .str (Sg [n])))) : Rs (zipS [.str (Sg a), .str (Sg b)]) Q E := q
end
end Dx
end S_DxQ
section S_DxR
set_option Elab.async false
set_option linter.all false
set_option maxRecDepth 100000
set_option maxHeartbeats 2000000
namespace Dx
open PySem L2 ItX
open PyProof.Rows hiding St
section
variable {X : Cx} {c : Cf} {L G G' : List Ow} {f f1 f2 : Rho → Res D} {e o a b : Expr} {es : List Expr} {pos apos p : Pos} {fs : Rho → Res (List D)} {n : Str} {C : Addr} {F : List D → Res D} {rm : Bool} {k : Nat} {fa : Addr} {fd : FuncData} {ps : List Str}
def keyD : D → Option Key
  | .int i => some (.inl i)
  | .str z => some (.inr z)
  | _ => none
def keyOf : Key → D
  | .inl i => .int i
  | .inr z => .str z
def getK {κ : Type} [DecidableEq κ] : List κ → List D → κ → Option D
  | k :: ks, v :: vs, x => if k = x then some v else getK ks vs x
  | _, _, _ => none
def putV {κ : Type} [DecidableEq κ] (ks : List κ) (vs : List D) (x : κ) (d : D) : List κ × List D := if (ks.any fun k => decide (k = x)) = true then (ks, List.zipWith (fun k v => if k = x then d else v) ks vs) else (ks ++ [x], vs ++ [d])
theorem key_v {K : PySem.W.Frag} {cm : CM} {S H : Hp} {v : V} {d : D} {k : Key} (h : RpB K cm S H v d) (q : keyD d = some k) : v = kV k := by
  cases d with
  | int i => cases q; exact h.int
  | str z => cases q; exact h.str
  | _ => cases q
theorem get_rp {κ : Type} [DecidableEq κ] {K : PySem.W.Frag} {cm : CM} {S : Hp} (k : κ) : ∀ {kvs : List (κ × V)} {ds : List D}, RpA K cm S (kvs.map (·.2)) ds →
    (∀ d, getK (kvs.map (·.1)) ds k = some d → ∃ v, valV kvs k = some v ∧ Rp K cm S v d) ∧ (getK (kvs.map (·.1)) ds k = none → valV kvs k = none)
  | [], ds, h => ⟨fun d q => by simp [getK] at q, fun _ => rfl⟩
  | (k', v') :: kvs, ds, h => by
    cases h with
    | @cons v vs d ds hd hr =>
      obtain ⟨g1, g2⟩ := get_rp k hr
      by_cases e : k' = k
      · rw [valV_pos (p := (k', v')) e]
        refine ⟨fun z q => ?_, fun q => ?_⟩
        · rw [List.map_cons, getK, if_pos e] at q
          cases q
          exact ⟨_, rfl, hd⟩
        · rw [List.map_cons, getK, if_pos e] at q
          cases q
      · rw [valV_neg (p := (k', v')) e]
        refine ⟨fun z q => ?_, fun q => ?_⟩
        · rw [List.map_cons, getK, if_neg e] at q
          exact g1 z q
        · rw [List.map_cons, getK, if_neg e] at q
          exact g2 q
theorem put_rp {κ : Type} [DecidableEq κ] {K : PySem.W.Frag} {cm : CM} {S : Hp} {k : κ} {v : V} {d : D} (hv : Rp K cm S v d) {kvs : List (κ × V)} {ds : List D} (h : RpA K cm S (kvs.map (·.2)) ds) :
    (putV (kvs.map (·.1)) ds k d).1 = (putK kvs k v).map (·.1) ∧ RpA K cm S ((putK kvs k v).map (·.2)) (putV (kvs.map (·.1)) ds k d).2 := by
  have hany : ((kvs.map (·.1)).any fun z => decide (z = k)) = (kvs.any fun kv => decide (kv.1 = k)) := by rw [List.any_map]; rfl
  unfold putV putK
  rw [hany]
  by_cases hm : (kvs.any fun kv => decide (kv.1 = k)) = true
  · rw [if_pos hm, if_pos hm]
    refine ⟨?_, ?_⟩
    · rw [List.map_map]
      refine List.map_congr_left fun p _ => ?_
      show p.1 = (if p.1 = k then (p.1, v) else p).1
      split <;> rfl
    · clear hm hany
      induction kvs generalizing ds with
      | nil => cases h; exact .nil
      | cons p kvs ih =>
        cases h with
        | @cons v' vs' d' ds' hd hr =>
          refine .cons ?_ (ih hr)
          show Rp K cm S (if p.1 = k then (p.1, v) else p).2 (if p.1 = k then d else d')
          split
          · exact hv
          · exact hd
  · rw [if_neg hm, if_neg hm]
    refine ⟨by simp, ?_⟩
    rw [List.map_append]
    exact h.app (.one hv)
/-- {} -/
def dD0 : Rho → Res D := fun _ => .ok (.dk [] [])
theorem de_dnew : PE X (.Dict [] [] pos) (tO c G dD0) := pe_imp pe_dnewK fun σ H Q ⟨S0, H0, S, r, ok, p⟩ => fun q hq => PostG.kept p ok.ex hq (.dk rfl .nil)
/-- k in d -/
def inK (neg : Bool) : D → D → Res D
  | k, .dk ks vs => match keyD k with
    | some x => .ok (.bl (if neg then !(getK ks vs x).isSome else (getK ks vs x).isSome))
    | none => .bad
  | _, _ => .bad
def rInDk (neg : Bool) : R2 := fun y x H Q => ∃ q o, x = V.ref q ∧ DGet H q y o ∧ Q (.bl (if neg then !o.isSome else o.isSome)) H
theorem op_inK (hu : X.A.units + 65 < cLine) : OpR X (compareOp .In) (rInDk false) := by
  intro pins s σ H x y v u Q I rx ry h
  obtain ⟨q, o, rfl, g, qq⟩ := h
  cases ry
  exact d_in (by omega) I g rx fun s' I' => ⟨.bl o.isSome, H, I', rfl, qq⟩
theorem op_ninK (hu : X.A.units + 65 < cLine) : OpR X (compareOp .NotIn) (rInDk true) := by
  intro pins s σ H x y v u Q I rx ry h
  obtain ⟨q, o, rfl, g, qq⟩ := h
  cases ry
  exact d_notIn (by omega) I g rx fun s' I' => ⟨.bl (!o.isSome), H, I', rfl, qq⟩
theorem os_inK {neg : Bool} : OpS c (mV c) (rInDk neg) (inK neg) := by
  intro σ S H x y d e Q ex hx hy p
  unfold inK at p
  split at p
  · rename_i ks vs
    split at p
    · rename_i z hz
      obtain ⟨q, kvs, rfl, h1, rfl, h3⟩ := RpB.dk hy ex
      have e1 : (valV kvs z).isSome = (getK (kvs.map (·.1)) vs z).isSome := by
        cases hg : getK (kvs.map (·.1)) vs z with
        | some d => obtain ⟨w, g1, _⟩ := (get_rp z h3).1 d hg; rw [g1]; rfl
        | none => rw [(get_rp z h3).2 hg]; rfl
      refine ⟨q, valV kvs z, rfl, ?_, ?_⟩
      · rw [key_v hx hz]; exact .inl ⟨_, _, h1, rfl, rfl⟩
      · rw [e1]; exact p.here ex (.bl _)
    · exact p.elim
  · exact p.elim
/-- list(d), len(d) -/
def listK : D → Res D
  | .dk ks _ => .ok (.lst (ks.map keyOf))
  | _ => .bad
def lenK : D → Res D
  | .dk ks _ => .ok (.int ks.length)
  | .dt ks _ => .ok (.int ks.length)
  | _ => .bad
/-- d[k] = v, d an own dict -/
def ownK (i : Nat) (r : Rho) : Res (List Key × List D) := match r[i]? with
  | some (some (.dk ks vs)) => .ok (ks, vs)
  | _ => .bad
def asK (d : D) : Res Key := match keyD d with
  | some k => .ok k
  | none => .bad
noncomputable def putF (i : Nat) (fk f : Rho → Res D) : Rho → SR := fun r => liftS r (f r) fun d => liftS r (ownK i r) fun o => liftS r (fk r) fun k => liftS r (asK k) fun x => guardS (o.1.length < sizeLine) (.nx (r.set i (some (.dk (putV o.1 o.2 x d).1 (putV o.1 o.2 x d).2))))
theorem ds_put (i : Nat) {x : Str} {pn p' : Pos} {ix : Expr} {fk : Rho → Res D} (hg : Gok c G) (hu : X.A.units + 65 < cLine) (kk : kd G i = .o) (ho : PE X (.Name x pn) (tVar i)) (hi : PE X ix (tV c G fk)) (he : PE X e (tV c G f))
    (hs : swapsWith e (some (.Subscript (.Name x pn) ix p')) pos.line X.env = pure false := by rfl) : PS X (.Assign [.Subscript (.Name x pn) ix p'] e pos) (sD c L G G (putF i fk f)) :=
  ps_imp (ps_dput (by omega) ho hi he hs) fun E σ H ⟨S0, H0, S, r, ok, p⟩ => st_seq hg ok p fun d v S1 H1 w1 o1 m1 p1 => by
    cases hK : ownK i r with
    | err n ns vs => exfalso; unfold ownK at hK; split at hK <;> cases hK
    | bad => rw [hK] at p1; exact p1.elim
    | ok o =>
      rw [hK] at p1
      unfold ownK at hK
      split at hK
      · rename_i ks vs hd
        cases hK
        obtain ⟨q, ho, s1, s2, s3, s4, s5⟩ := o1.own kk hd
        cases s5 with
        | @dk kvs _ _ hks hvs =>
          subst hks
          refine ⟨.ref q, s1, st_seq hg o1 p1 fun kd' kv S2 H2 w2 o2 m2 p2 => ?_⟩
          unfold asK at p2
          split at p2
          · rename_i xk hx
            have hxk : keyD kd' = some xk := hx
            obtain ⟨hl, p3⟩ := p2.gd
            have hq2 : H2 q = some (.dK kvs) := w2.h _ _ s2
            have ev : kv = kV xk := key_v (H := H2) (.inl m2) hxk
            subst ev
            have pr := put_rp (k := xk) (m1.mono w2.s) (hvs.mono w2.s)
            have hl' : kvs.length < sizeLine := by simpa using hl
            refine ⟨q, _, rfl, DPut.k hq2 hl', p3 σ S2 _ (o2.mut kk hd s1 (.dk pr.1 pr.2))⟩
          · exact p2.elim
      · cases hK
end
end Dx
end S_DxR
section S_DxI
set_option Elab.async false
set_option linter.all false
set_option maxRecDepth 100000
set_option maxHeartbeats 2000000
namespace Dx
open PySem L2 ItX PyProof.Rows
section
variable {X : Cx} {c : Cf} {L G G' : List Ow} {a b e : Expr} {pos : Pos} {f f1 f2 : Rho → Res D} {k : Nat}
def keysD : List D → Option (List Key)
  | [] => some []
  | d :: ds => match keyD d, keysD ds with
    | some k, some ks => some (k :: ks)
    | _, _ => none
def keyT : D → Option (List Key)
  | .tup ds => keysD ds
  | _ => none
def tupOf (ks : List Key) : D := .tup (ks.map keyOf)
theorem keys_v {K : PySem.W.Frag} {cm : CM} {S : Hp} : ∀ {vs : List V} {ds : List D} {ks : List Key}, RpA K cm S vs ds → keysD ds = some ks → vs = ks.map kV
  | _, [], ks, h, q => by cases h; cases q; rfl
  | _, d :: ds, ks, h, q => by
    cases h with | @cons v vs _ _ hd hr =>
    unfold keysD at q
    split at q
    · rename_i k ks' h1 h2
      cases q
      rw [List.map_cons, ← keys_v hr h2, key_v (H := S) (.inl hd) h1]
    · cases q
theorem key_rp {K : PySem.W.Frag} {cm : CM} {S : Hp} : ∀ ks : List Key, RpA K cm S (ks.map kV) (ks.map keyOf)
  | [] => .nil
  | k :: ks => .cons (by cases k with | inl i => exact .int i | inr z => exact .str z) (key_rp ks)
theorem keyT_v {K : PySem.W.Frag} {cm : CM} {S H : Hp} {v : V} {d : D} {ks : List Key} (h : RpB K cm S H v d) (e : Ex S H) (q : keyT d = some ks) : ∃ p, v = .ref p ∧ H p = some (.tup (ks.map kV)) := by
  cases d with
  | tup ds =>
    obtain ⟨p, xs, rfl, _, r, hp⟩ := h.tup e
    have := keys_v r q
    subst this
    exact ⟨p, rfl, e _ _ hp⟩
  | _ => cases q
/-- a tuple of the heap becomes one that stays -/
theorem Fwd.tup {S H : Hp} (e : Ex S H) {q : Addr} {xs : List V} (h : H q = some (.tup xs)) : ∃ S', Fwd S H S' H ∧ S' q = some (.tup xs) := by
  cases hs : S q with
  | some o =>
    have := e.same hs h (fun _ z => by cases z)
    subst this
    exact ⟨S, Fwd.refl e, hs⟩
  | none =>
    refine ⟨upd S q (.tup xs), ⟨Ex.new hs, Ex.refl, fun a u ha => ?_, fun a u ha m => ?_, Tk.refl⟩, upd_same⟩
    · by_cases hh : a = q
      · subst hh; rw [upd_same] at ha; exact .mk (by rw [h]; exact ha)
      · rw [upd_ne hh] at ha; exact e a u ha
    · by_cases hh : a = q
      · subst hh; exact .inr ⟨xs, h⟩
      · rw [upd_ne hh, m] at ha; cases ha
theorem Fwd.tups {H : Hp} : ∀ {S : Hp} {kvs : List (List Key × V)} {bs : List Addr} {K : PySem.W.Frag} {cm : CM}, Ex S H → IsKeys H kvs bs → ∃ S', Fwd S H S' H ∧ RpA K cm S' (bs.map V.ref) (kvs.map fun p => tupOf p.1)
  | S, [], [], _, _, e, _ => ⟨S, Fwd.refl e, .nil⟩
  | S, [], _ :: _, _, _, e, h => nomatch h
  | S, _ :: _, [], _, _, e, h => nomatch h
  | S, p :: kvs, b :: bs, K, cm, e, h => by
    cases h with
    | cons h1 h2 =>
      obtain ⟨S1, f1, g1⟩ := Fwd.tup e h1
      obtain ⟨S2, f2, g2⟩ := Fwd.tups (K := K) (cm := cm) f1.sub h2
      exact ⟨S2, f1.trans f2, .cons (.tup (f2.s _ _ g1) (key_rp _)) g2⟩
def ownT (i : Nat) (r : Rho) : Res (List (List Key) × List D) := match r[i]? with
  | some (some (.dt ks vs)) => .ok (ks, vs)
  | _ => .bad
def asT (d : D) : Res (List Key) := match keyT d with
  | some k => .ok k
  | none => .bad
noncomputable def putT (i : Nat) (fk f : Rho → Res D) : Rho → SR := fun r => liftS r (f r) fun d => liftS r (ownT i r) fun o => liftS r (fk r) fun k => liftS r (asT k) fun x => guardS (o.1.length < sizeLine) (.nx (r.set i (some (.dt (putV o.1 o.2 x d).1 (putV o.1 o.2 x d).2))))
theorem ds_putT (i : Nat) {x : Str} {pn p' : Pos} {ix : Expr} {fk : Rho → Res D} (hg : Gok c G) (hr : Room k X.A) (kk : kd G i = .o) (ho : PE X (.Name x pn) (tVar i)) (hi : PE X ix (tV c G fk)) (he : PE X e (tV c G f))
    (hs : swapsWith e (some (.Subscript (.Name x pn) ix p')) pos.line X.env = pure false := by rfl) : PS X (.Assign [.Subscript (.Name x pn) ix p'] e pos) (sD c L G G (putT i fk f)) :=
  ps_imp (ps_dput (by have := hr.units; omega) ho hi he hs) fun E σ H ⟨S0, H0, S, r, ok, p⟩ => st_seq hg ok p fun d v S1 H1 w1 o1 m1 p1 => by
    cases hK : ownT i r with
    | err n ns vs => exfalso; unfold ownT at hK; split at hK <;> cases hK
    | bad => rw [hK] at p1; exact p1.elim
    | ok o =>
      rw [hK] at p1
      unfold ownT at hK
      split at hK
      · rename_i ks vs hd
        cases hK
        obtain ⟨q, ho, s1, s2, s3, s4, s5⟩ := o1.own kk hd
        cases s5 with
        | @dt kvs _ _ hks hvs =>
          subst hks
          refine ⟨.ref q, s1, st_seq hg o1 p1 fun kd' kv S2 H2 w2 o2 m2 p2 => ?_⟩
          unfold asT at p2
          split at p2
          · rename_i xk hx
            have hxk : keyT kd' = some xk := hx
            obtain ⟨hl, p3⟩ := p2.gd
            have hq2 : H2 q = some (.dT kvs) := w2.h _ _ s2
            obtain ⟨b, rfl, hb⟩ := keyT_v (H := H2) (.inl m2) o2.ex hxk
            have pr := put_rp (k := xk) (m1.mono w2.s) (hvs.mono w2.s)
            have hl' : kvs.length < sizeLine := by simpa using hl
            refine ⟨q, _, rfl, DPut.t hq2 hb hl', p3 σ S2 _ (o2.mut kk hd s1 (.dt pr.1 pr.2))⟩
          · exact p2.elim
      · cases hK
def dT0 : Rho → Res D := fun _ => .ok (.dt [] [])
theorem de_dnewT : PE X (.Dict [] [] pos) (tO c G dT0) := pe_imp pe_dnewT fun σ H Q ⟨S0, H0, S, r, ok, p⟩ => fun q hq => PostG.kept p ok.ex hq (.dt rfl .nil)
def itemsK : D → Res (List D)
  | .dt ks _ => .ok (ks.map tupOf)
  | .dk ks _ => .ok (ks.map keyOf)
  | _ => .bad
variable {tg : Expr}
end
end Dx
end S_DxI
section S_DxJ
set_option Elab.async false
set_option linter.all false
set_option maxRecDepth 100000
set_option maxHeartbeats 2000000
namespace Dx
open PySem L2 ItX PyProof.Rows
/-- a def of the text, whatever its defaults are -/
structure FunE (K : PySem.W.Frag) (x qual : Str) (st : Stmt) (f : Addr) (fd : FuncData) : Prop where
  ex : ∃ (oc : Value) (od : Option Addr) (dV kV doc pm : Value) (an : Option Addr) (cdv ct : Value) (osl : Array (Option Value)),
    fd = PySem.W.fnOf x qual (defArgs st) (defBody st) (defScope st) dV kV doc pm an cdv ct ∧ K.lookup f = some ⟨oc, od, .func fd, osl⟩ ∧ PySem.W.codeIn K cdv qual = true
  kp : PySem.W.keepIn K (.ref f) = true
section
variable {P : Program} {w : World} {K : PySem.W.Frag} {mg : Str → Option Value} {base : Heap} {cm : CM}
theorem FunE.okN {x qual : Str} {st : Stmt} {f : Addr} {fd : FuncData} {N ps : List Str} {k : Nat} {sp : Sp} (F : FunE K x qual st f fd) (S : FnScope N ps (defScope st)) (len : ∀ vs H Q E, sp vs H Q E → vs.length = ps.length)
    (hbody : ∀ (cdv : Value) (A : Around) (outer : List Env) (s : Shared) (H : Hp) (vs : List V) (Q : VK) (E : XK), Room k (A.deeper (envOfC qual (defScope st) s.heap.objs.size f cdv)) → sp vs H Q E →
      ∃ t, PSs (cxOf (L2N.CX P w) P w K mg base N qual (defScope st) f cdv A outer s H E) (defBody st) t ∧ t { nx := fun _ H' => Q .non H', rt := Q } (start N vs) H) : FnOk P w K mg base (L2N.CX P w) (k + 1) f fd ps sp := by
  obtain ⟨oc, od, dV, kV, doc, pm, an, cdv, ct, osl, rfl, lk, hcd⟩ := F.ex
  exact fn_of lk hcd S len fun A outer s H vs Q E hr hsp => hbody cdv A outer s H vs Q E hr hsp
end
end Dx
end S_DxJ
section S_DxH
set_option Elab.async false
set_option linter.all false
set_option maxRecDepth 100000
set_option maxHeartbeats 4000000
namespace Dx
open PySem L2 PyProof.Rows Srt SrtO
abbrev T3 := Int × Int × Int
section
variable {prog : Program} {w : World} {A : Around} {E : Value → Shared → Prop} {s : Shared}
/-- v is a tuple of three ints in the heap -/
def IsTri (h : Heap) (v : Value) (k : T3) : Prop := ∃ a o t u v' n, v = .ref a ∧ h.get? a = some o ∧ o.cls = .type "tuple" ∧ o.data = .seq #[.int k.1 t, .int k.2.1 u, .int k.2.2 v'] n
theorem IsTri.keeps {h h' : Heap} {v : Value} {k : T3} (p : IsTri h v k) (kk : ∀ b o, h.get? b = some o → o.cls = .type "tuple" → h'.get? b = some o) : IsTri h' v k := by
  obtain ⟨a, o, t, u, z, n, e, ho, hc, hd⟩ := p
  exact ⟨a, o, t, u, z, n, e, kk _ _ ho hc, hc, hd⟩
end
end Dx
end S_DxH
section S_DxL
set_option Elab.async false
set_option linter.all false
set_option maxRecDepth 100000
set_option maxHeartbeats 4000000
namespace Dx
open PySem L2
end Dx
end S_DxL
section S_DxK
set_option Elab.async false
set_option linter.all false
set_option maxRecDepth 100000
set_option maxHeartbeats 2000000
namespace Dx
open PySem L2 PyProof.Rows ClX
end Dx
namespace Dx
open PySem L2
end Dx
end S_DxK
section S_DxAA
set_option Elab.async false
set_option linter.all false
set_option maxRecDepth 100000
set_option maxHeartbeats 2000000
namespace Dx
open PySem L2
section
variable {X : Cx} {c : Cf} {L G G' : List Ow} {f f1 f2 : Rho → Res D} {a b e : Expr} {pos : Pos} {tg : Expr}
theorem RgC.up {i j s : Int} (h : 0 < s ∧ s < 1000 ∧ -1000000000000000000 < i ∧ i < 1000000000000000000 ∧ -1000000000000000000 < j ∧ j < 1000000000000000000) : RgC i j s (if i < j then (j - i - 1) / s + 1 else 0).toNat := by
  obtain ⟨h1, h2, h3, h4, h5, h6⟩ := h
  have hs : Builtin.Range.rangeSize i j s = ((if i < j then (j - i - 1) / s + 1 else 0).toNat : Int) := by
    unfold Builtin.Range.rangeSize
    rw [if_pos (by omega)]
    split
    · have : 0 ≤ (j - i - 1) / s := Int.ediv_nonneg (by omega) (by omega)
      omega
    · rfl
  refine ⟨by omega, by omega, ?_, hs⟩
  have hd : i < j → (j - i - 1) / s ≤ j - i - 1 := fun h => Int.ediv_le_self _ (by omega)
  have hd0 : i < j → 0 ≤ (j - i - 1) / s := fun h => Int.ediv_nonneg (by omega) (by omega)
  have hq : i < j → (j - i - 1) / s * s ≤ j - i - 1 := fun h => Int.ediv_mul_le _ (by omega)
  unfold Builtin.Range.small
  unfold Builtin.Range.rangeSize
  simp only [Builtin.Range.rangeFitsLong, Bool.and_eq_true, Bool.or_eq_true, decide_eq_true_eq, beq_iff_eq, show s > 0 from h1, if_true]
  split
  · rename_i hij
    have hd := hd hij
    have hd0 := hd0 hij
    have hq := hq hij
    generalize (j - i - 1) / s = q at *
    have e : (q + 1) * s = q * s + s := by rw [Int.add_mul, Int.one_mul]
    have e0 : 0 ≤ q * s := Int.mul_nonneg hd0 (by omega)
    try rw [e]
    generalize q * s = z at *
    omega
  · omega
def insI (p : Int) : List Int → List Int
  | [] => [p]
  | x :: xs => if x < p then x :: insI p xs else p :: x :: xs
def sortI : List Int → List Int
  | [] => []
  | x :: xs => insI x (sortI xs)
def sortID : D → Res D
  | .lst ds => match allInt ds with
    | some is => .ok (.lst ((sortI is).map D.int))
    | none => .bad
  | _ => .bad
end
section
variable {Q : D → Prop} {E : Str → List Str → List D → Prop} {i j s : Int}
theorem allInt_map : ∀ ns : List Int, allInt (ns.map D.int) = some ns
  | [] => rfl
  | n :: ns => by rw [List.map_cons, allInt, allInt_map ns]
theorem rs_sortI {ns : List Int} (q : Q (.lst ((sortI ns).map D.int))) : Rs (g1 sortID [.lst (ns.map D.int)]) Q E := by
  show Rs (match allInt (ns.map D.int) with | some is => Res.ok (.lst ((sortI is).map D.int)) | none => .bad) Q E
  rw [allInt_map]; exact q
theorem rs_g2 {g : Int → Int → Int} (q : Q (.int (g i j))) : Rs (g2 (intsD g) [.int i, .int j]) Q E := q
theorem rs_sum {ns : List Int} (q : Q (.int ns.sum)) : Rs (g1 sumD [.lst (ns.map D.int)]) Q E := by
  show Rs (match allInt (ns.map D.int) with | some is => Res.ok (.int is.sum) | none => .bad) Q E
  rw [allInt_map]; exact q
end
end Dx
end S_DxAA
section S_DxAB
set_option Elab.async false
set_option linter.all false
set_option maxRecDepth 100000
set_option maxHeartbeats 4000000
namespace Dx
open PySem L2 PyProof.Rows Srt SrtO
section
variable {prog : Program} {w : World} {A : Around} {E : Value → Shared → Prop} {s : Shared}
def IsRow (h : Heap) (v : Value) (k : List Key) : Prop := ∃ a o us n, v = .ref a ∧ h.get? a = some o ∧ o.cls = .type "tuple" ∧ o.data = .seq us.toArray n ∧ Vals (k.map kV) us
theorem IsRow.keeps {h h' : Heap} {v : Value} {k : List Key} (p : IsRow h v k) (kk : ∀ b o, h.get? b = some o → o.cls = .type "tuple" → h'.get? b = some o) : IsRow h' v k := by
  obtain ⟨a, o, us, n, e, ho, hc, hd, hv⟩ := p
  exact ⟨a, o, us, n, e, kk _ _ ho hc, hc, hd, hv⟩
end
end Dx
end S_DxAB
section S_DxAC
set_option Elab.async false
set_option linter.all false
set_option maxRecDepth 100000
set_option maxHeartbeats 4000000
namespace Dx
open PySem L2
section
variable {X : Cx} {c : Cf} {L G G' G'' : List Ow} {f f1 f2 : Rho → Res D} {a b e e2 e3 : Expr} {pos : Pos} {tg : Expr} {k : Nat}
def getE (d k e : D) : Res D := match d with
  | .dk ks vs => match keyD k with
    | some x => .ok ((getK ks vs x).getD e)
    | none => .bad
  | .dt ks vs => match keyT k with
    | some x => .ok ((getK ks vs x).getD e)
    | none => .bad
  | _ => .bad
def getZ (d k : D) : Res D := match d with
  | .dk ks vs => match keyD k with
    | some x => match getK ks vs x with
      | some d => .ok d
      | none => .bad
    | none => .bad
  | .dt ks vs => match keyT k with
    | some x => match getK ks vs x with
      | some d => .ok d
      | none => .bad
    | none => .bad
  | _ => .bad
theorem de_getZ (hu : X.A.units + 65 < cLine) (ha : PE X a (tR c G f1)) (hb : PE X b (tR c G f2)) (hs : NoSl b) : PE X (.Subscript a b pos) (tV c G (dOp getZ f1 f2)) :=
  pe_imp (pe_dget (by omega) ha hb hs) fun σ H Q ⟨S0, H0, S, r, ok, p⟩ => rd_seq ok p fun d v S1 H1 w1 o1 m1 p1 => rd_seq o1 p1 fun e u S2 H2 w2 o2 m2 p2 => by
    have m1 := RpB.mono m1 w2.s w2.h
    unfold getZ at p2
    split at p2
    · rename_i ks vs
      split at p2
      · rename_i x hx
        split at p2
        · rename_i z hz
          obtain ⟨q, kvs, rfl, h1, rfl, h3⟩ := RpB.dk m1 o2.ex
          obtain ⟨w, g1, g2⟩ := (get_rp x h3).1 z hz
          refine ⟨q, w, rfl, ?_, p2.go o2.ex _ g2⟩
          rw [key_v m2 hx, ← g1]
          exact .inl ⟨_, _, h1, rfl, rfl⟩
        · exact p2.elim
      · exact p2.elim
    · rename_i ks vs
      split at p2
      · rename_i x hx
        split at p2
        · rename_i z hz
          obtain ⟨q, kvs, rfl, h1, rfl, h3⟩ := RpB.dt m1 o2.ex
          obtain ⟨w, g1, g2⟩ := (get_rp x h3).1 z hz
          obtain ⟨b, rfl, hb⟩ := keyT_v m2 o2.ex hx
          exact ⟨q, w, rfl, .inr ⟨_, x, b, h1, rfl, hb, g1.symm⟩, p2.go o2.ex _ g2⟩
        · exact p2.elim
      · exact p2.elim
    · exact p2.elim
abbrev FP := (Rho → Res D) × (Rho → Res D)
def dPairs : List FP → Rho → Res (List (D × D))
  | [], _ => .ok []
  | p :: ps, r => (p.1 r).bind fun k => (p.2 r).bind fun d => (dPairs ps r).bind fun kvs => .ok ((k, d) :: kvs)
def RpPs (c : Cf) (S : Hp) : List (V × V) → List (D × D) → Prop
  | [], [] => True
  | v :: vs, d :: ds => Rp c.K c.cm S v.1 d.1 ∧ Rp c.K c.cm S v.2 d.2 ∧ RpPs c S vs ds
  | _, _ => False
def mergeD : List Key → List D → List (D × D) → Res D
  | ks, vs, [] => .ok (.dk ks vs)
  | ks, vs, (k, d) :: kvs => match keyD k with
    | some x => mergeD (putV ks vs x d).1 (putV ks vs x d).2 kvs
    | none => .bad
def dDisp (ps : List FP) : Rho → Res D := fun r => (dPairs ps r).bind fun kvs => mergeD [] [] kvs
theorem RpPs.len {S : Hp} : ∀ {vs : List (V × V)} {ds : List (D × D)}, RpPs c S vs ds → vs.length = ds.length
  | [], [], _ => rfl
  | v :: vs, d :: ds, h => by simp [RpPs.len h.2.2]
  | [], _ :: _, h => h.elim
  | _ :: _, [], h => h.elim
def allBl : List D → Option (List Bool)
  | [] => some []
  | .bl b :: ds => match allBl ds with
    | some bs => some (b :: bs)
    | none => none
  | _ => none
def allD : D → Res D
  | .lst ds => match allBl ds with
    | some bs => .ok (.bl (bs.all id))
    | none => .bad
  | _ => .bad
def inKt (neg : Bool) (d e : D) : Res D := match e with
  | .kt ds => match inFlat d ds with
    | some b => .ok (.bl (if neg then !b else b))
    | none => .bad
  | _ => .bad
theorem os_inKt {neg : Bool} : OpS c (mV c) (rIn c.K neg) (inKt neg) := fun σ S H x y d e Q ex hx hy p => by
  unfold inKt at p
  cases e with
  | kt ds =>
    dsimp only at p
    split at p
    · rename_i b hb
      obtain ⟨q, xs, rfl, a1, r1, s1⟩ := hy.kt ex
      obtain ⟨z1, z2, z3⟩ := of_inFlat hx r1 hb
      refine ⟨q, xs, rfl, .inr a1, z1, z2, ?_⟩
      rw [z3]; exact p.here ex (.bl _)
    · exact p.elim
  | _ => exact p.elim
theorem kt_mk {K : PySem.W.Frag} {cm : CM} {A : Addr} {od : Option Addr} {n : Nat} {sl : Array (Option Value)} {us : List Value} {xs : List V} {ds : List D} (l : K.lookup A = some ⟨.type "tuple", od, .seq us.toArray n, sl⟩) (hz : us.length ≤ 1000) (hv : Vals xs us) {S : Hp} (hr : RpA K cm S xs ds) : Rp K cm S (.ref A) (.kt ds) :=
  .kt (.inr ⟨_, us.toArray, n, l, rfl, rfl, by rw [sizeLine_eq]; simp; omega, by simpa using hv⟩) hr
def parF3 (i j l : Nat) (f1 f2 f3 : Rho → Res D) : Rho → SR := fun r => liftS r (dCons f1 (dCons f2 (dCons f3 dNil)) r) fun ds => match ds with
  | [d, e, g] => .nx (((r.set i (some d)).set j (some e)).set l (some g))
  | _ => .bad
end
section
variable {Q : D → Prop} {E : Str → List Str → List D → Prop} {r : Rho} {f f1 f2 f3 : Rho → Res D} {d k e : D}
theorem allBl_map : ∀ bs : List Bool, allBl (bs.map D.bl) = some bs
  | [] => rfl
  | b :: bs => by rw [List.map_cons, allBl, allBl_map bs]
theorem rs_all {bs : List Bool} (q : Q (.bl (bs.all id))) : Rs (g1 allD [.lst (bs.map D.bl)]) Q E := by
  show Rs (match allBl (bs.map D.bl) with | some bs => Res.ok (.bl (bs.all id)) | none => .bad) Q E
  rw [allBl_map]; exact q
end
section
variable {N B C : Rho → Prop} {R : D → Prop} {E : Rho → Str → List Str → List D → Prop} {r : Rho} {f f1 f2 f3 : Rho → Res D} {i j l : Nat}
theorem ss_par3 (h : Rs (f1 r) (fun d => Rs (f2 r) (fun e => Rs (f3 r) (fun g => N (((r.set i (some d)).set j (some e)).set l (some g))) (E r)) (E r)) (E r)) : Ss (parF3 i j l f1 f2 f3 r) N R B C E :=
  ss_lift (rs_cons (h.impE (fun d q => rs_cons (q.impE (fun e q => rs_cons (q.impE (fun g q => rs_nil q) fun _ _ _ z => z)) fun _ _ _ z => z)) fun _ _ _ z => z))
end
end Dx
end S_DxAC
section S_DxAD
set_option Elab.async false
set_option linter.all false
set_option maxRecDepth 100000
set_option maxHeartbeats 2000000
namespace Dx
open PySem L2
section
variable {X : Cx} {c : Cf} {G : List Ow} {pos : Pos}
theorem de_strL {x y : Str} {j : Nat} (h : x = y) : PE X (.Constant (.str x) j pos) (tV c G (dC (.str y))) := by subst h; exact de_str
end
theorem log_small {i : Int} (h : 0 ≤ i) (h1 : i < 1000000000000) : i.natAbs.log2 < 1920 := by
  by_cases h0 : i.natAbs = 0
  · rw [h0]; decide
  · have : i.natAbs < 2 ^ 40 := by omega
    have := (Nat.log2_lt h0).mpr this
    omega
theorem num_ST {i : Int} (h : 0 ≤ i) : (toString i : Str) = Sg (TL.numL i.toNat) := by
  have e : i = ((i.toNat : Nat) : Int) := by omega
  refine TL.ext_tl ?_
  have := TL.tl_num i.toNat
  rw [← e] at this
  exact this
theorem lt_one {a b : Nat} : ([a] < [b]) ↔ a < b := by
  constructor
  · intro h
    cases h with
    | rel h => exact h
    | cons h => cases h
  · intro h; exact List.Lex.rel h
section
variable {Q : D → Prop} {E : Str → List Str → List D → Prop} {i j : Int} {a b l : List Nat} {r : Rho} {f : Rho → Res D} {g : Str → Rho → Res D} {acc : List Nat} {d : D}
theorem rs_strI (h : 0 ≤ i ∧ i < 1000000000000) (q : Q (.str (Sg (TL.numL i.toNat)))) : Rs (g1 strD [.int i]) Q E :=
  rs_guard (log_small h.1 h.2) (by show Q (.str (toString i)); rw [num_ST h.1]; exact q)
theorem rs_fmtI (h : 0 ≤ i ∧ i < 1000000000000) (q : Q (.str (Sg (TL.numL i.toNat)))) : Rs (fmtD (.int i)) Q E :=
  rs_guard (log_small h.1 h.2) (by show Q (.str (toString i)); rw [num_ST h.1]; exact q)
theorem rs_fmtS (h : a.length ≤ sizeLine) (q : Q (.str (Sg a))) : Rs (fmtD (.str (Sg a))) Q E := rs_guard (by rw [ST_len]; exact h) q
theorem rs_jnil (q : Q (.str (Sg acc))) : Rs (dJnil (Sg acc) r) Q E := q
theorem rs_jcons (h : Rs (f r) (fun d => Rs (asS d) (fun y => ∃ l, y = Sg l ∧ acc.length + l.length ≤ 100000 ∧ Rs (g (Sg (acc ++ l)) r) Q E) E) E) : Rs (dJcons f g (Sg acc) r) Q E :=
  Rs.bind (h.impE (fun d q => Rs.bind (q.impE (fun y q => by
    obtain ⟨l, rfl, h1, h2⟩ := q
    rw [ST_app]
    exact rs_guard (by rw [ST_len, List.length_append]; exact Nat.le_trans h1 sz5) h2) fun _ _ _ z => z)) fun _ _ _ z => z)
theorem rs_asSJ {l : List Nat} (h : acc.length + l.length ≤ 100000) (k : Rs (g (Sg (acc ++ l)) r) Q E) : Rs (asS (.str (Sg l))) (fun y => ∃ l, y = Sg l ∧ acc.length + l.length ≤ 100000 ∧ Rs (g (Sg (acc ++ l)) r) Q E) E := ⟨l, rfl, h, k⟩
theorem rs_dJoin (h : Rs (g (Sg []) r) Q E) : Rs (dJoin g r) Q E := h
theorem rs_ord {n : Nat} (q : Q (.int n)) : Rs (g1 ordX [.str (Sg [n])]) Q E := rs_guard (by rw [ST_len]; rfl) q
theorem rs_leS {m n : Nat} (q : Q (.bl (decide (m ≤ n)))) : Rs (leD (.str (Sg [m])) (.str (Sg [n]))) Q E := by
  show Q (.bl (!decide ([n] < [m])))
  rw [show (!decide ([n] < [m])) = decide (m ≤ n) from by
    rw [Bool.eq_iff_iff]
    simp only [Bool.not_eq_true', decide_eq_false_iff_not, decide_eq_true_eq, lt_one]
    omega]
  exact q
theorem inFlat_ints (i : Int) (ns : List Int) : inFlat (.int i) (ns.map D.int) = some (decide (i ∈ ns)) := by
  have e : flatDs (ns.map D.int) = some (ns.map V.int) := by
    induction ns with
    | nil => rfl
    | cons n ns ih => rw [List.map_cons, flatDs, ih]; rfl
  unfold inFlat
  rw [e]
  show some (inV (V.int i) (ns.map V.int)) = _
  congr 1
  induction ns with
  | nil => rfl
  | cons n ns ih =>
    have e : flatDs (ns.map D.int) = some (ns.map V.int) := by
      clear ih e
      induction ns with
      | nil => rfl
      | cons n ns ih => rw [List.map_cons, flatDs, ih]; rfl
    have ih := ih e
    unfold inV at ih ⊢
    rw [List.map_cons, List.any_cons, ih]
    show (decide (n = i) || decide (i ∈ ns)) = _
    by_cases h : n = i
    · subst h; simp
    · have h' : ¬ i = n := fun z => h z.symm
      simp [h, h']
theorem rs_inKI {neg : Bool} {ns : List Int} (q : Q (.bl (if neg then !decide (i ∈ ns) else decide (i ∈ ns)))) : Rs (inKt neg (.int i) (.kt (ns.map D.int))) Q E := by
  show Rs (match inFlat (.int i) (ns.map D.int) with | some b => Res.ok (D.bl (if neg then !b else b)) | none => .bad) Q E
  rw [inFlat_ints]; exact q
theorem rs_inI {ns : List Int} (q : Q (.bl (decide (i ∈ ns)))) : Rs (inD (.int i) (.lst (ns.map D.int))) Q E := by
  show Rs ((inLst (.int i) (ns.map D.int)).bind _) Q E
  unfold inLst
  rw [inFlat_ints]; exact q
theorem rs_ninI {ns : List Int} (q : Q (.bl (!decide (i ∈ ns)))) : Rs (ninD (.int i) (.lst (ns.map D.int))) Q E := by
  show Rs ((inLst (.int i) (ns.map D.int)).bind _) Q E
  unfold inLst
  rw [inFlat_ints]; exact q
end
theorem at_pos {α : Type} {xs : List α} {j : Int} {x : α} (h0 : 0 ≤ j) (h : xs[j.toNat]? = some x) : atI xs j = some x := by
  obtain ⟨n, rfl⟩ := Int.eq_ofNat_of_zero_le h0
  exact atI_nat h
abbrev TD := List (List Nat × D)
def kS (a : List Nat) : Key := .inr (Sg a)
theorem kS_inj {a b : List Nat} : kS a = kS b ↔ a = b := ⟨fun h => by injection h with h; exact ST_inj.mp h, fun h => by rw [h]⟩
def dkT (T : TD) : D := .dk (T.map fun p => kS p.1) (T.map (·.2))
def lk (T : TD) (a : List Nat) : Option D := (T.find? fun p => decide (p.1 = a)).map (·.2)
theorem lk_cons (p : List Nat × D) (T : TD) (a : List Nat) : lk (p :: T) a = if p.1 = a then some p.2 else lk T a := by
  unfold lk
  rw [List.find?_cons]
  by_cases h : p.1 = a
  · rw [if_pos h, decide_eq_true h]; rfl
  · rw [if_neg h, decide_eq_false h]
theorem getK_T (T : TD) (a : List Nat) : getK (T.map fun p => kS p.1) (T.map (·.2)) (kS a) = lk T a := by
  induction T with
  | nil => rfl
  | cons p T ih =>
    rw [List.map_cons, List.map_cons, getK, ih, lk_cons]
    by_cases h : p.1 = a
    · rw [if_pos (kS_inj.mpr h), if_pos h]
    · rw [if_neg (fun z => h (kS_inj.mp z)), if_neg h]
theorem lk_isSome {T : TD} {a : List Nat} : (lk T a).isSome = decide (a ∈ T.map (·.1)) := by
  induction T with
  | nil => rfl
  | cons p T ih =>
    rw [lk_cons, List.map_cons]
    by_cases h : p.1 = a
    · rw [if_pos h]; simp [h]
    · have h' : ¬ a = p.1 := fun z => h z.symm
      rw [if_neg h, ih]; simp [h']
section
variable {Q : D → Prop} {E : Str → List Str → List D → Prop} {T : TD} {a : List Nat} {d e : D} {r : Rho}
theorem rs_inTk {neg : Bool} (q : Q (.bl (if neg then !decide (a ∈ T.map (·.1)) else decide (a ∈ T.map (·.1))))) : Rs (inK neg (.str (Sg a)) (dkT T)) Q E := by
  show Q (.bl (if neg then !(getK (T.map fun p => kS p.1) (T.map (·.2)) (kS a)).isSome else (getK (T.map fun p => kS p.1) (T.map (·.2)) (kS a)).isSome))
  rw [getK_T, lk_isSome]; exact q
theorem rs_getET (q : Q ((lk T a).getD e)) : Rs (getE (dkT T) (.str (Sg a)) e) Q E := by
  show Q ((getK (T.map fun p => kS p.1) (T.map (·.2)) (kS a)).getD e)
  rw [getK_T]; exact q
theorem rs_dD0 (q : Q (dkT [])) : Rs (dD0 r) Q E := q
theorem rs_listTk (q : Q (.lst (T.map fun p => .str (Sg p.1)))) : Rs (g1 listK [dkT T]) Q E := by
  show Q (.lst ((T.map fun p => kS p.1).map keyOf))
  rw [List.map_map]; exact q
theorem rs_lenTk (q : Q (.int T.length)) : Rs (g1 lenK [dkT T]) Q E := by
  show Q (.int (T.map fun p => kS p.1).length)
  rw [List.length_map]; exact q
theorem rs_itTk {Q : List D → Prop} (q : Q (T.map fun p => .str (Sg p.1))) : Rs (itemsK (dkT T)) Q E := by
  show Q ((T.map fun p => kS p.1).map keyOf)
  rw [List.map_map]; exact q
end
section
variable {Q : D → Prop} {E : Str → List Str → List D → Prop} {r : Rho} {fk fv : Rho → Res D} {ps : List FP}
theorem rs_disp (h : Rs (dPairs ps r) (fun kvs => Rs (mergeD [] [] kvs) Q E) E) : Rs (dDisp ps r) Q E := Rs.bind h
theorem rs_pnil {Q : List (D × D) → Prop} (q : Q []) : Rs (dPairs [] r) Q E := q
theorem rs_pcons {Q : List (D × D) → Prop} (h : Rs (fk r) (fun k => Rs (fv r) (fun d => Rs (dPairs ps r) (fun kvs => Q ((k, d) :: kvs)) E) E) E) : Rs (dPairs ((fk, fv) :: ps) r) Q E :=
  Rs.bind (h.impE (fun k q => Rs.bind (q.impE (fun d q => Rs.bind (q.impE (fun _ z => z) fun _ _ _ z => z)) fun _ _ _ z => z)) fun _ _ _ z => z)
end
section
variable {N B C : Rho → Prop} {R : D → Prop} {E : Rho → Str → List Str → List D → Prop} {r : Rho} {t u : Rho → Res Bool} {F K : Rho → SR}
/-- if t or u: F else: K, one test after the other -/
theorem ss_ifo (h : Rs (t r) (fun a => (a = true → Ss (F r) N R B C E) ∧ (a = false → Ss (ifF u F K r) N R B C E)) (E r)) : Ss (ifF (dOr t u) F K r) N R B C E := by
  unfold ifF
  refine ss_lift ?_
  refine rs_orc (h.impE (fun a q => ⟨fun ha => ?_, fun ha => ?_⟩) fun _ _ _ z => z)
  · exact q.1 ha
  · have q := q.2 ha
    unfold ifF at q
    cases hu : u r with
    | ok b => rw [hu] at q; exact q
    | err n ns vs => rw [hu] at q; exact q
    | bad => rw [hu] at q; exact q
theorem ss_ifa (h : Rs (t r) (fun a => (a = true → Ss (ifF u F K r) N R B C E) ∧ (a = false → Ss (K r) N R B C E)) (E r)) : Ss (ifF (dAnd t u) F K r) N R B C E := by
  unfold ifF
  refine ss_lift ?_
  refine rs_andc (h.impE (fun a q => ⟨fun ha => ?_, fun ha => ?_⟩) fun _ _ _ z => z)
  · have q := q.1 ha
    unfold ifF at q
    cases hu : u r with
    | ok b => rw [hu] at q; exact q
    | err n ns vs => rw [hu] at q; exact q
    | bad => rw [hu] at q; exact q
  · exact q.2 ha
end
end Dx
end S_DxAD
section S_DxAE
set_option Elab.async false
set_option linter.all false
set_option maxRecDepth 100000
set_option maxHeartbeats 2000000
namespace Dx
open PySem L2
section
variable {X : Cx} {c : Cf} {L G G' : List Ow} {S0 H0 S H S' H' : Hp} {σ : St} {r : Rho} {e : Expr} {f : Rho → Res D} {pos apos cpos : Pos} {E : Env}
def asL : D → Res (List D)
  | .lst ds => .ok ds
  | _ => .bad
noncomputable def extF (i : Nat) (f : Rho → Res D) : Rho → SR := fun r => liftS r (ownL i r) fun ds => liftS r (f r) fun d => liftS r (asL d) fun es => guardS (ds.length + es.length ≤ sizeLine) (.nx (r.set i (some (.lst (ds ++ es)))))
theorem ds_ext (i : Nat) {x : Str} {pn : Pos} (hg : Gok c G) (k : kd G i = .o) (ho : PE X (.Name x pn) (tVar i)) (he : PE X e (tV c G f)) (hw : swapsWith (.Call (.Attribute (.Name x pn) "extend" apos) [e] [] cpos) none pos.line X.env = pure false := by rfl)
    (hbase : attributeBase (.Name x pn) "extend" X.env (eval (.Name x pn) X.env) = eval (.Name x pn) X.env := by rfl)
    (hfew : ((backTo cpos (starEach [e] X.env)).all (fun x => !x.1) && (backToKw cpos (keywordEach [] X.env)).all (fun x => x.1.isSome) && decide ([e].length + ([] : List Keyword).length + (if ([] : List Keyword).isEmpty then 0 else 1) < 30)) = true := by rfl)
    (hline : (apos.endLine == cpos.line) = true := by rfl) (hs : starEach [e] X.env = (false, eval e X.env) :: starEach [] X.env := by rfl) :
    PS X (.Expr (.Call (.Attribute (.Name x pn) "extend" apos) [e] [] cpos) pos) (sD c L G G (extF i f)) :=
  ps_imp (ps_expr (pe_bm PySem.F.plainAttrs_list PySem.F.slot_list_extend PySem.F.type_list_extend mt_extend ho (pa_cons he pa_nil hs) hbase hfew hline hs rfl) hw) fun E σ H ⟨S0, H0, S, r, ok, p⟩ => by
    obtain ⟨q, xs, ds, hd, z1, z2, z3, p1⟩ := of_ownL ok k p
    refine ⟨.ref q, z1, .inl ⟨rfl, xs, .inl (.inl z2)⟩, st_seq hg ok p1 fun d v S1 H1 w1 o1 m1 p2 => ?_⟩
    cases d with
    | lst es =>
      replace p2 : PostS c S0 H0 L G (guardS (ds.length + es.length ≤ sizeLine) (.nx (r.set i (some (.lst (ds ++ es)))))) E := p2
      obtain ⟨hl, p2⟩ := p2.gd
      cases m1 with
      | lst a1 r1 =>
        exact ⟨q, _, xs, _, rfl, rfl, w1.h _ _ z2, o1.ex _ _ a1, by rw [z3.length, r1.length]; exact hl, p2 σ S1 _ (o1.mut k hd z1 (.lst ((z3.mono w1.s).app r1)))⟩
    | _ => exact p2.elim
end
section
variable {Q : D → Prop} {E : Str → List Str → List D → Prop} {r : Rho} {f : Rho → Res D}
theorem rs_asL {Q : List D → Prop} {ds : List D} (q : Q ds) : Rs (asL (.lst ds)) Q E := q
end
section
variable {N B C : Rho → Prop} {R : D → Prop} {E : Rho → Str → List Str → List D → Prop} {r : Rho} {f : Rho → Res D} {i : Nat}
theorem ss_ext {ds : List D} (h1 : r[i]? = some (some (.lst ds))) (h : Rs (f r) (fun d => Rs (asL d) (fun es => ds.length + es.length ≤ sizeLine ∧ N (r.set i (some (.lst (ds ++ es))))) (E r)) (E r)) : Ss (extF i f r) N R B C E := by
  unfold extF
  refine ss_lift (Rs.of (a := ds) (by unfold ownL; rw [h1]) (ss_lift (h.impE (fun d q => ss_lift (q.impE (fun es q => ?_) fun _ _ _ z => z)) fun _ _ _ z => z)))
  rw [guardS_pos q.1]; exact q.2
end
end Dx
end S_DxAE
section S_DxAF
set_option Elab.async false
set_option linter.all false
set_option maxRecDepth 100000
set_option maxHeartbeats 4000000
namespace Dx
open PySem L2 PySem.Spec PyProof.Rows
end Dx
end S_DxAF
section S_DxAG
set_option Elab.async false
set_option linter.all false
set_option maxRecDepth 100000
set_option maxHeartbeats 4000000
namespace Dx
open PySem L2
end Dx
end S_DxAG
section S_DxAH
set_option Elab.async false
set_option linter.all false
set_option maxRecDepth 100000
set_option maxHeartbeats 2000000
namespace Dx
open PySem L2
end Dx
end S_DxAH
section S_DxAI
set_option Elab.async false
set_option linter.all false
set_option maxRecDepth 100000
set_option maxHeartbeats 2000000
namespace Dx
open PySem PySem.Spec L2 ItX PyProof.Rows
end Dx
end S_DxAI
section S_DxAJ
set_option Elab.async false
set_option linter.all false
set_option maxRecDepth 100000
set_option maxHeartbeats 2000000
namespace Dx
open PySem L2 ItX PyProof.Rows
section
variable {X : Cx} {c : Cf} {L G G' : List Ow} {f f1 : Rho → Res D} {fs gs : Rho → Res (List D)} {e o : Expr} {es : List Expr} {kws : List Keyword} {pos apos p : Pos} {C : Addr}
variable {k n : Nat} {fa : Addr} {fd : FuncData} {ps ks : List Str} {ms ms1 ms2 : List Bool} {rm : Bool} {F : List D → Res D}
theorem RpM.length {S H : Hp} : ∀ {ms : List Bool} {vs : List V} {ds : List D}, RpM c S H ms vs ds → vs.length = ms.length
  | [], vs, ds, h => by cases vs <;> cases ds <;> first | rfl | exact h.elim
  | b :: ms, vs, ds, h => by
    cases vs with
    | nil => cases b <;> cases ds <;> exact h.elim
    | cons v vs => cases ds with
      | nil => cases b <;> exact h.elim
      | cons d ds => cases b <;> exact congrArg Nat.succ (RpM.length h.2)
end
end Dx
end S_DxAJ
section S_DxAK
set_option Elab.async false
set_option linter.all false
set_option maxRecDepth 100000
set_option maxHeartbeats 2000000
namespace Dx
open PySem PySem.Spec L2 ItX PyProof.Rows
section
variable {X : Cx} {c : Cf} {L G G' : List Ow} {f f1 : Rho → Res D} {e o : Expr} {es : List Expr} {pos apos p : Pos}
variable {k : Nat} {fa : Addr} {fd : FuncData} {ps : List Str} {rm : Bool} {F : List D → Res D} {x : Str}
theorem pe_callSD0 {CX : CXT} {sp : Sp} {E : L2.St → XK} (F : FnOk X.prog X.w X.K X.mg X.base CX k fa fd ps sp) (hr : Room k X.A) (hg : Gl X x) (hm : X.mg x = some (.ref fa)) (hk : PySem.W.keepIn X.K (.ref fa) = true) (hb : L2.Binds X.K fd ps []) (hx : ∀ σ, PassesAt CX X σ (E σ))
    (hdb : (x == ("__debug__" : Str)) = false := by decide) : PE X (.Call (.Name x p) [] [] pos) (tCallSD sp [] E tNil) := by
  refine ⟨fun pins s σ H Q I h => ?_⟩
  refine wpAny_Call_Name_kw (ld_glob I hg hm ?_ hdb)
  exact PySem.W.callWith_K0 I.kIn hk (run_fnSD (us := []) F hr hb .nil (hx σ) I .nil h)
theorem de_call0 (F1 : FnOk X.prog X.w X.K X.mg X.base (L2N.CX X.prog X.w) k fa fd ps (spD c.K c.cm [] rm F)) (tk : L2N.Takes X c.W) (hr : Room k X.A) (hg : Gl X x) (hm : X.mg x = some (.ref fa)) (hk : PySem.W.keepIn X.K (.ref fa) = true) (hb : L2.Binds X.K fd ps [])
    (hdb : (x == ("__debug__" : Str)) = false := by decide) : PE X (.Call (.Name x p) [] [] pos) (rd c G (dCall F dNil) (mR c rm)) :=
  pe_imp (pe_callSD0 (E := fun σ cls d H => c.W cls d σ H) F1 hr hg hm hk hb (fun σ => L2N.passAt tk σ) hdb) fun σ H Q ⟨S0, H0, S, r, ok, q⟩ => call_rd (vs := []) (ds := []) (fun _ _ _ h => h) ok.ex trivial q
end
end Dx
end S_DxAK
section S_DxAL
set_option Elab.async false
set_option linter.all false
set_option maxRecDepth 100000
set_option maxHeartbeats 2000000
namespace Dx
open PySem PySem.Spec L2 ItX PyProof.Rows
theorem _root_.L2H.RoomH.units {k : Nat} {A : Around} (r : L2H.RoomH k A) : A.units + 64 < cLine := by have := r.un; omega
end Dx
end S_DxAL
section S_DxAM
set_option Elab.async false
set_option linter.all false
set_option maxRecDepth 100000
set_option maxHeartbeats 2000000
namespace Dx
open PySem L2 ItX
end Dx
end S_DxAM
section S_DxAN
set_option Elab.async false
set_option linter.all false
set_option maxRecDepth 100000
set_option maxHeartbeats 2000000
namespace Dx
open PySem L2 ItX
open PyProof.Rows hiding St
end Dx
end S_DxAN
section S_DxAO
set_option Elab.async false
set_option linter.all false
set_option maxRecDepth 100000
set_option maxHeartbeats 2000000
namespace Dx
open PySem L2 ItX
open PyProof.Rows hiding St
def rem (H : Hp) (p : Addr) : Hp := fun a => if a = p then none else H a
theorem rem_same {H : Hp} {p : Addr} : rem H p p = none := if_pos rfl
theorem rem_ne {H : Hp} {p a : Addr} (h : a ≠ p) : rem H p a = H a := if_neg h
theorem rem_put {H : Hp} {p : Addr} {o : HO} (h : H p = some o) : upd (rem H p) p o = H := by
  funext a
  by_cases e : a = p
  · subst e; rw [upd_same, h]
  · rw [upd_ne e, rem_ne e]
theorem Ex.rem {S H : Hp} {p : Addr} (e : Ex S H) (n : S p = none) : Ex S (rem H p) := fun a o h => by
  have : a ≠ p := fun z => by subst z; rw [n] at h; cases h
  exact (e a o h).at (rem_ne this)
section
variable {c : Cf} {S0 H0 S H S' H' : Hp} {G : List Ow} {σ : St} {r : Rho}
/-- the own object in slot i is given away -/
theorem EnvOk.take (e : EnvOk c S0 H0 G S H σ r) {i : Nat} {d : D} {p : Addr} (k : kd G i = .o) (h : r[i]? = some (some d)) (hs : σ[i]? = some (some (.ref p))) (s3 : S p = none) (s4 : H0 p = none) : EnvOk c S0 H0 (G.set i .v) S (rem H p) σ (r.set i none) := by
  have sl : ∀ {j : Nat} {b : D}, (r.set i none)[j]? = some (some b) → i ≠ j ∧ r[j]? = some (some b) := fun {j b} hb => by
    rcases set_some hb with ⟨_, ea, _⟩ | ⟨ne, hb⟩
    · cases ea
    · exact ⟨ne, hb⟩
  have tk : Tk H (rem H p) := by
    obtain ⟨q, ho, t1, t2, _, _, t5⟩ := e.own k h
    rw [hs] at t1; cases t1
    exact Tk.but (A := [p]) (fun a ha => ⟨ho, by rw [List.mem_singleton.mp ha]; exact t2, t5.pl⟩) fun b u hb eb => by
      rw [rem_ne fun z => hb (List.mem_singleton.mpr z)]; exact eb
  refine ⟨⟨e.fwd.s, e.fwd.h.rem s4, e.fwd.sub.rem s3, e.fwd.new, e.fwd.tb.trans tk⟩, by rw [List.length_set]; exact e.len, fun j b hb => ?_, fun j l b b' q hj hl kj kl sj sl' => ?_, let ⟨A, hA⟩ := e.sto; ⟨A, ?_⟩⟩
  · obtain ⟨ne, hb⟩ := sl hb
    obtain ⟨v, h1, h2⟩ := e.slot j b hb
    refine ⟨v, h1, ?_⟩
    rw [kd_set_ne ne]
    cases kj : kd G j with
    | o =>
      rw [kj] at h2
      obtain ⟨q, ho, z1, z2, z3, z4, z5⟩ := h2
      subst z1
      have hq : q ≠ p := fun z => by subst z; exact ne (e.sep i j d b q h hb (isO_o k) (isO_o kj) hs h1)
      exact ⟨q, ho, rfl, by rw [rem_ne hq]; exact z2, z3, z4, z5⟩
    | i a =>
      rw [kj] at h2
      obtain ⟨z0, q, ho, z1, z2, z3, z4, z5⟩ := h2
      subst z1
      have hq : q ≠ p := fun z => by subst z; exact ne (e.sep i j d b q h hb (isO_o k) (by rw [kj]; trivial) hs h1)
      exact ⟨z0, q, ho, rfl, by rw [rem_ne hq]; exact z2, z3, z4, z5⟩
    | v => rw [kj] at h2; exact h2
    | b => rw [kj] at h2; exact h2
    | s P => rw [kj] at h2; exact h2
    | w => rw [kj] at h2; exact h2
    | j a0 fs0 => rw [kj] at h2; exact h2
    | x a C dd => rw [kj] at h2; exact h2
  · obtain ⟨n1, hj⟩ := sl hj
    obtain ⟨n2, hl⟩ := sl hl
    rw [kd_set_ne n1] at kj
    rw [kd_set_ne n2] at kl
    exact e.sep j l b b' q hj hl kj kl sj sl'
  · have np : ∀ a ∈ A, a ≠ p := fun a ha z => hA.own i d p h (isO_o k) hs (z ▸ ha)
    refine hA.sub (fun a ha => (hA.out a ha).1) (fun a ha => rem_ne (np a ha)) Ex.refl (fun j b q hj kj sj => ?_) fun j b kj hj => ?_
    · obtain ⟨n1, hj⟩ := sl hj
      rw [kd_set_ne n1] at kj
      exact hA.own j b q hj kj sj
    · obtain ⟨n1, hj⟩ := sl hj
      rw [kd_set_ne n1]
      exact ⟨rfl, hj, rfl⟩
theorem set_kd {G : List Ow} {i : Nat} (k : kd G i = .o) : (G.set i .v).set i .o = G := by
  rw [List.set_set]
  apply List.ext_getElem?
  intro j
  by_cases e : i = j
  · subst e
    have hl : i < G.length := Nat.lt_of_not_le fun z => by
      have : kd G i = .v := by
        show G.getD i .v = .v
        rw [List.getD_eq_getElem?_getD, List.getElem?_eq_none z]; rfl
      rw [this] at k; cases k
    rw [List.getElem?_set_self hl]
    have : kd G i = G[i] := by
      show G.getD i .v = _
      rw [List.getD_eq_getElem?_getD, List.getElem?_eq_getElem hl]; rfl
    rw [List.getElem?_eq_getElem hl, ← this, k]
  · rw [List.getElem?_set_ne e]
end
end Dx
end S_DxAO
section S_DxAP
set_option Elab.async false
set_option linter.all false
set_option maxRecDepth 100000
set_option maxHeartbeats 2000000
namespace PySem
end PySem
namespace RZ
open PySem
open PySem.Sem (wp)
end RZ
end S_DxAP
section S_DxAQ
set_option Elab.async false
set_option linter.all false
set_option maxRecDepth 100000
set_option maxHeartbeats 2000000
namespace RZ
open PySem PySem.Spec PyProof.Rows L2
end RZ
end S_DxAQ
section S_DxAR
set_option Elab.async false
set_option linter.all false
set_option maxRecDepth 100000
set_option maxHeartbeats 2000000
namespace Dx
open PySem L2 ItX
open PyProof.Rows hiding St
end Dx
end S_DxAR
section S_DxAS
set_option Elab.async false
set_option linter.all false
set_option maxRecDepth 100000
set_option maxHeartbeats 2000000
namespace Dx
open PySem L2 ItX
open PyProof.Rows hiding St
end Dx
end S_DxAS
section S_DxAT
set_option Elab.async false
set_option linter.all false
set_option maxRecDepth 100000
set_option maxHeartbeats 2000000
namespace Dx
open PySem L2 ItX
open PyProof.Rows hiding St
end Dx
end S_DxAT
section S_DxAU
set_option Elab.async false
set_option linter.all false
set_option maxRecDepth 100000
set_option maxHeartbeats 2000000
namespace Dx
open PySem L2 ItX
open PyProof.Rows hiding St
end Dx
end S_DxAU
section S_DxAV
set_option Elab.async false
set_option linter.all false
set_option maxRecDepth 100000
set_option maxHeartbeats 2000000
namespace Dx
open PySem L2 ItX
open PyProof.Rows hiding St
section
variable {X : Cx} {c : Cf} {L G : List Ow} {f1 f2 : Rho → Res D} {a b : Expr} {pos : Pos}
theorem ds_parVO (i j : Nat) {x y : Str} {px py pt pt2 : Pos} {kt k2 : Nat} (hg : Gok c G) (hc : X.calm = true) (hN : X.N.Nodup) (hi : X.N[i]? = some x) (hj : X.N[j]? = some y) (hij : i ≠ j) (hGj : j < G.length)
    (hx : X.env.scope.names.lookup x = some .local) (hy : X.env.scope.names.lookup y = some .local) (ha : PE X a (tV c G f1)) (hb : PE X b (tO c G f2))
    (hw : swappedStores [.Tuple [.Name x px, .Name y py] kt pt] (.Tuple [a, b] k2 pt2) X.env = pure (some [x, y]))
    (hs : swapsWithSole [.Tuple [.Name x px, .Name y py] kt pt] (.Tuple [a, b] k2 pt2) pos.line X.env = pure false := by rfl)
    (hs1 : starEach [a, b] X.env = (false, eval a X.env) :: starEach [b] X.env := by rfl) (hs2 : starEach [b] X.env = (false, eval b X.env) :: starEach [] X.env := by rfl) :
    PS X (.Assign [.Tuple [.Name x px, .Name y py] kt pt] (.Tuple [a, b] k2 pt2) pos) (sD c L G ((G.set i .v).set j .o) (parF i j f1 f2)) :=
  ps_imp (ps_par hc hN hi hj hij hx hy (pa_cons ha (pa_cons hb pa_nil hs2) hs1) hw hs) fun E σ H ⟨S0, H0, S, r, ok, p⟩ => by
    have p' : PostS c S0 H0 L ((G.set i .v).set j .o) (liftS r (f1 r) fun d => liftS r (f2 r) fun e => .nx ((r.set i (some d)).set j (some e))) E := by
      unfold parF dCons dNil at p
      cases h1 : f1 r with
      | ok d =>
        rw [h1] at p
        cases h2 : f2 r with
        | ok e => rw [h2] at p; exact p
        | err n ns vs => rw [h2] at p; exact p
        | bad => rw [h2] at p; exact p
      | err n ns vs => rw [h1] at p; exact p
      | bad => rw [h1] at p; exact p
    refine st_seq hg ok p' fun d v S1 H1 w1 o1 m1 p1 => st_seq hg o1 p1 fun e u S2 H2 w2 o2 m2 p2 => ?_
    obtain ⟨q2, ho2, rfl, n2, ns2, hp2, h2⟩ := m2
    have e1 := o1.setV i m1
    have e2 := e1.setO w2 j (by rw [List.length_set]; exact hGj) n2 ns2 hp2 h2
    exact ⟨_, _, rfl, p2 _ S2 H2 e2⟩
end
end Dx
end S_DxAV
section S_DxAW
set_option Elab.async false
set_option linter.all false
set_option maxRecDepth 100000
set_option maxHeartbeats 2000000
namespace Dx
open PySem L2 HandSPX
open PyProof.Rows hiding St
end Dx
end S_DxAW
section S_DxAX
set_option Elab.async false
set_option linter.all false
set_option maxRecDepth 100000
set_option maxHeartbeats 2000000
namespace Dx
open PySem L2 PySem.Spec
open PyProof.Rows hiding St passOn frameOf
end Dx
end S_DxAX
section S_DxAY
set_option Elab.async false
set_option linter.all false
set_option maxRecDepth 100000
set_option maxHeartbeats 2000000
namespace Dx
open PySem L2
open PyProof.Rows hiding St
end Dx
end S_DxAY
section S_DxAZ
set_option Elab.async false
set_option linter.all false
set_option maxRecDepth 100000
set_option maxHeartbeats 2000000
namespace Dx
open PySem L2
open PyProof.Rows hiding St
section
variable {X : Cx} {c : Cf} {L G G' : List Ow} {σ : St} {S0 H0 S H S' H' : Hp} {r : Rho} {pos : Pos} {e : Expr}
theorem RmA.snoc {A : List Addr} {xs : List V} {row : List D} {v : V} {d : D} (h : RmA c.K c.cm A S xs row) (hv : RmV c.K c.cm A S v d) : RmA c.K c.cm A S (xs ++ [v]) (row ++ [d]) := by
  refine ⟨by rw [List.length_append, List.length_append, h.1]; rfl, fun i u b hu hb => ?_⟩
  by_cases hi : i < row.length
  · rw [List.getElem?_append_left (by rw [h.1]; exact hi)] at hu
    rw [List.getElem?_append_left hi] at hb
    exact h.2 i u b hu hb
  · rw [List.getElem?_append_right (by rw [h.1]; omega), h.1] at hu
    rw [List.getElem?_append_right (by omega)] at hb
    cases hz : i - row.length with
    | zero =>
      rw [hz] at hu hb
      cases hu; cases hb
      exact hv
    | succ n =>
      rw [hz] at hb
      simp at hb
theorem RmA.dropLast {A : List Addr} {xs : List V} {row : List D} (h : RmA c.K c.cm A S xs row) : RmA c.K c.cm A S xs.dropLast row.dropLast := by
  refine ⟨by rw [List.length_dropLast, List.length_dropLast, h.1], fun i u b hu hb => ?_⟩
  rw [List.getElem?_dropLast] at hu hb
  split at hu
  · split at hb
    · exact h.2 i u b hu hb
    · cases hb
  · cases hu
variable {a b : Expr} {f1 f2 : Rho → Res D} {p1 p2 : Pos}
end
end Dx
end S_DxAZ
section S_DxBA
set_option Elab.async false
set_option linter.all false
set_option maxRecDepth 100000
set_option maxHeartbeats 2000000
namespace Dx
open PySem L2
open PyProof.Rows hiding St
def GS (A : List Addr) (n : Nat) : List Ow := .s A :: List.replicate (n - 1) .v
end Dx
end S_DxBA
section S_DxBB
set_option Elab.async false
set_option linter.all false
set_option maxRecDepth 100000
set_option maxHeartbeats 2000000
namespace Dx
open PySem L2
open PyProof.Rows hiding St
end Dx
end S_DxBB
section S_DxBC
set_option Elab.async false
set_option linter.all false
set_option maxRecDepth 100000
set_option maxHeartbeats 2000000
namespace Dx
open PySem L2
open PyProof.Rows hiding St
inductive ModR (K : PySem.W.Frag) : List DictEntry → List (Str × D) → Prop
  | nil : ModR K [] []
  | cons {h : Int} {x y : Str} {t : Tok} {u : Value} {r : List DictEntry} {v : V} {d : D} {rows : List (Str × D)} (h0 : x = y) (h2 : RelV v u) (h3 : ∀ (cm : CM) S, Rp K cm S v d) (h4 : ModR K r rows) :
      ModR K (⟨h, .str x t, u⟩ :: r) ((y, d) :: rows)
def lookD : List (Str × D) → Str → Option D
  | [], _ => none
  | (x, d) :: r, z => if x = z then some d else lookD r z
theorem ModR.find {K : PySem.W.Frag} : ∀ {es : List DictEntry} {rows : List (Str × D)}, ModR K es rows → ∀ z : Str,
    (lookD rows z = none ∧ (es.find? fun e => Value.isStrOf z e.key) = none) ∨ ∃ d v e, lookD rows z = some d ∧ (es.find? fun e => Value.isStrOf z e.key) = some e ∧ RelV v e.val ∧ ∀ (cm : CM) S, Rp K cm S v d
  | _, _, .nil, z => .inl ⟨rfl, rfl⟩
  | _, _, .cons (h := h) (x := x) (t := t) (u := u) (r := r) (v := v) (d := d) (rows := rows) h0 h2 h3 h4, z => by
    subst h0
    by_cases e : x = z
    · subst e
      refine .inr ⟨d, v, ⟨h, .str x t, u⟩, by unfold lookD; rw [if_pos rfl], ?_, h2, h3⟩
      rw [List.find?_cons_of_pos]
      show (x == x) = true
      simp
    · have q : (List.find? (fun e => Value.isStrOf z e.key) ((⟨h, .str x t, u⟩ : DictEntry) :: r)) = List.find? (fun e => Value.isStrOf z e.key) r := List.find?_cons_of_neg (by
        show ¬ (x == z) = true
        intro w
        exact e (eq_of_beq w))
      rw [q]
      have q2 : lookD ((x, d) :: rows) z = lookD rows z := by
        show (if x = z then some d else lookD rows z) = _
        rw [if_neg e]
      rw [q2]
      exact h4.find z
def ModD (K : PySem.W.Frag) (w : World) (a : Addr) (rows : List (Str × D)) : Prop := ∃ es n, KDict K w a es n ∧ ModR K es.toList rows
theorem ModD.mk {K : PySem.W.Frag} {w : World} {a : Addr} {es : List DictEntry} {n : Nat} {rows : List (Str × D)} (h1 : K.lookup a = some ⟨.type "dict", none, .dict es.toArray n, #[]⟩) (h2 : PySem.W.KeysLit w.params es) (h3 : (a == sysModules) = false) (h4 : ModR K es rows) :
    ModD K w a rows := ⟨_, n, ⟨h1, by simpa using h2, h3⟩, by simpa using h4⟩
section
variable {X : Cx} {c : Cf} {G : List Ow} {f1 : Rho → Res D} {a b : Expr} {pos : Pos} {k : Addr} {rows : List (Str × D)}
theorem ModR.findBy {K : PySem.W.Frag} {es : Array DictEntry} (h : ModR K es.toList rows) (z : Str) :
    (lookD rows z = none ∧ PySem.findBy Value.isStrOf es z = none) ∨ ∃ d v u, lookD rows z = some d ∧ PySem.findBy Value.isStrOf es z = some u ∧ RelV v u ∧ ∀ (cm : CM) S, Rp K cm S v d := by
  unfold PySem.findBy
  rw [← Array.find?_toList]
  rcases h.find z with ⟨h1, h2⟩ | ⟨d, v, e, h1, h2, h3⟩
  · exact .inl ⟨h1, by rw [h2]; rfl⟩
  · exact .inr ⟨d, v, e.val, h1, by rw [h2]; rfl, h3⟩
def mdGet (rows : List (Str × D)) : D → Res D
  | .str z => match lookD rows z with
    | some d => .ok d
    | none => .bad
  | _ => .bad
theorem ix_md (D : ModD X.K X.w k rows) : IxR X (fun x y H Q => ∃ z d, x = .ref k ∧ y = .str z ∧ lookD rows z = some d ∧ ∀ v, (∀ (cm : CM) S, Rp X.K cm S v d) → Q v H) := by
  intro value slice pins s σ H x y v u Q I rx ry h hs
  obtain ⟨z, d, rfl, rfl, hz, q⟩ := h
  obtain ⟨es, n, D, R⟩ := D
  obtain rfl : v = Value.ref k := rx
  obtain ⟨t, rfl⟩ := ry
  have hm := PySem.W.mapOf_K (prog := X.prog) (w := X.w) I.kIn D.at_ D.lit
  rcases R.findBy z with ⟨h1, h2⟩ | ⟨d', v', u, h1, h2, h3, h4⟩
  · rw [h1] at hz; cases hz
  · rw [h1] at hz; cases hz
    exact tail_any hm.typeIs slot_dict_getitem.lookup (wpAny_getItem_of (PySem.strKind_is X.prog X.w z t) hm h2 ⟨v', H, I.tok _, h3, q v' h4⟩) hs
/-- D[e] -/
theorem de_mdGet (D : ModD X.K X.w k rows) (ha : PE X a (tC (.ref k))) (hb : PE X b (tR c G f1)) (hs : PlainIx b) (hK : c.K = X.K := by rfl) : PE X (.Subscript a b pos) (tV c G (dUn (mdGet rows) f1)) :=
  pe_imp (pe_ix (ix_md D) ha hb hs) fun σ H Q ⟨S0, H0, S, r, ok, p⟩ => rd_seq ok p fun d v S1 H1 w1 o1 m1 p1 => by
    unfold mdGet at p1
    split at p1
    · split at p1
      · rename_i d hd
        cases m1.str
        exact ⟨_, d, rfl, rfl, hd, fun v hv => p1.go o1.ex _ (by show Rp c.K c.cm _ v d; rw [hK]; exact hv _ _)⟩
      · exact p1.elim
    · exact p1.elim
end
end Dx
end S_DxBC
section S_DxBD
set_option Elab.async false
set_option linter.all false
set_option maxRecDepth 100000
set_option maxHeartbeats 2000000
namespace Dx
open PySem L2 ItX
open PyProof.Rows hiding St
end Dx
end S_DxBD
section S_DxBE
set_option Elab.async false
set_option linter.all false
set_option maxRecDepth 100000
set_option maxHeartbeats 2000000
namespace Dx
open PySem L2 ItX
open PyProof.Rows hiding St
end Dx
end S_DxBE
section S_DxBF
set_option Elab.async false
set_option linter.all false
set_option maxRecDepth 100000
set_option maxHeartbeats 2000000
namespace PySem
end PySem
namespace RZ
open PySem
open PySem.Sem (wp)
end RZ
end S_DxBF
section S_DxBG
set_option Elab.async false
set_option linter.all false
set_option maxRecDepth 100000
set_option maxHeartbeats 2000000
namespace RZ
open PySem PySem.Spec PyProof.Rows L2
end RZ
namespace Dx
open PySem L2
end Dx
end S_DxBG
section S_DxBH
set_option Elab.async false
set_option linter.all false
set_option maxRecDepth 100000
set_option maxHeartbeats 2000000
namespace Dx
open PySem L2
end Dx
end S_DxBH
section S_DxBI
set_option Elab.async false
set_option linter.all false
set_option maxRecDepth 100000
set_option maxHeartbeats 2000000
namespace Dx
open PySem L2
end Dx
end S_DxBI
section S_DxBJ
set_option Elab.async false
set_option linter.all false
set_option maxRecDepth 100000
set_option maxHeartbeats 2000000
namespace OT
open PySem PySem.SeqAt
/-- a bool as a number -/
def nbI (b : Bool) : Int := if b = true then 1 else 0
end OT
namespace Dx
open PySem L2 OT
/-- a number, and whether it is a bool -/
inductive NB where
  | i (n : Int)
  | b (x : Bool)
def NB.num : NB → Int
  | .i n => n
  | .b x => nbI x
def NB.v : NB → V
  | .i n => .int n
  | .b x => .bl x
def nbAt (l : List NB) (j : Nat) : Int := (l.getD j (.i 0)).num
def lexLt (ns ms : List NB) : Bool := Ob.lexAt (fun j => decide (nbAt ns j = nbAt ms j)) (fun j => decide (nbAt ns j < nbAt ms j)) false 0 ns.length
end Dx
end S_DxBJ
section S_DxBK
set_option Elab.async false
set_option linter.all false
set_option maxRecDepth 100000
set_option maxHeartbeats 2000000
namespace L2
open PySem PySem.Spec PyProof.Rows
end L2
end S_DxBK
section S_DxBL
set_option Elab.async false
set_option linter.all false
set_option maxRecDepth 100000
set_option maxHeartbeats 2000000
namespace Dx
open PySem L2 ItX
open PyProof.Rows hiding St
end Dx
end S_DxBL
section S_DxBM
set_option Elab.async false
set_option linter.all false
set_option maxRecDepth 100000
set_option maxHeartbeats 2000000
namespace Dx
open PySem L2 ItX
end Dx
end S_DxBM
section S_DxBN
set_option Elab.async false
set_option linter.all false
set_option maxRecDepth 100000
set_option maxHeartbeats 2000000
namespace Dx
open PySem PySem.Spec L2 ItX PyProof.Rows
end Dx
end S_DxBN
section S_DxBO
set_option Elab.async false
set_option linter.all false
set_option maxRecDepth 100000
set_option maxHeartbeats 2000000
namespace Dx
open PySem PySem.Spec L2 ItX PyProof.Rows
end Dx
end S_DxBO
section S_DxBP
set_option Elab.async false
set_option linter.all false
set_option maxRecDepth 100000
set_option maxHeartbeats 2000000
namespace Dx
open PySem L2 ItX PyProof.Rows
/-- what is written by keywords, as entries of a dict -/
abbrev kwE {α : Type} (l : List (Str × α)) : List (Key × α) := l.map fun x => (Sum.inr x.1, x.2)
abbrev KWs : List (Str × V) → List (Str × Value) → Prop := Paired fun (p : Str × V) (q : Str × Value) => p.1 = q.1 ∧ RelV p.2 q.2
theorem KWs.kv : ∀ {a : List (Str × V)} {b : List (Str × Value)}, KWs a b → KV (kwE a) (kwE b)
  | _, _, .nil => .nil
  | _, _, .cons h t => .cons ⟨congrArg Sum.inr h.1, h.2⟩ (KWs.kv t)
theorem KWs.keys : ∀ {a : List (Str × V)} {b : List (Str × Value)}, KWs a b → b.map (·.1) = a.map (·.1)
  | _, _, .nil => rfl
  | _, _, .cons h t => by rw [List.map_cons, List.map_cons, KWs.keys t, h.1]
theorem KWs.zip : ∀ {ks : List Str} {vs : List V} {us : List Value}, Vals vs us → KWs (ks.zip vs) (ks.zip us)
  | [], _, _, _ => .nil
  | _ :: _, _, _, .nil => .nil
  | _ :: _, _, _, .cons h t => .cons ⟨rfl, h⟩ (KWs.zip t)
end Dx
end S_DxBP
section S_DxBQ
set_option Elab.async false
set_option linter.all false
set_option maxRecDepth 100000
set_option maxHeartbeats 2000000
namespace RZ
open PySem
end RZ
namespace Dx
open PySem PySem.Spec L2 ItX PyProof.Rows RZ
end Dx
end S_DxBQ
section S_DxBR
set_option Elab.async false
set_option linter.all false
set_option maxRecDepth 100000
set_option maxHeartbeats 2000000
namespace Dx
open PySem PySem.Spec L2 ItX PyProof.Rows
end Dx
end S_DxBR
section S_DxBS
set_option Elab.async false
set_option linter.all false
set_option maxRecDepth 100000
set_option maxHeartbeats 2000000
namespace Dx
open PySem L2
open PyProof.Rows hiding St
end Dx
end S_DxBS
section S_DxBT
set_option Elab.async false
set_option linter.all false
set_option maxRecDepth 100000
namespace Dx
open PySem PySem.Spec L2 ItX PyProof.Rows
end Dx
end S_DxBT
section S_DxBU
set_option Elab.async false
set_option linter.all false
set_option maxRecDepth 100000
set_option maxHeartbeats 2000000
namespace Dx
open PySem L2
open PyProof.Rows hiding St
/-- no generator stands between these frames -/
def ngF : List Frame → Prop
  | [] => True
  | .ret _ _ _ _ _ _ _ :: fs => ngF fs
  | .gen _ _ _ _ _ :: _ => False
theorem ngF.app : ∀ {as bs : List Frame}, ngF as → ngF bs → ngF (as ++ bs)
  | [], _, _, h => h
  | .ret _ _ _ _ _ _ _ :: as, _, h, h2 => ngF.app (as := as) h h2
  | .gen _ _ _ _ _ :: _, _, h, _ => h.elim
theorem ngF.split : ∀ {fs : List Frame}, ngF fs → splitAtGen fs = none
  | [], _ => rfl
  | .ret _ _ _ _ _ _ _ :: fs, h => by
    have z := ngF.split (fs := fs) h
    show (splitAtGen fs).map _ = none
    rw [z]
    rfl
  | .gen _ _ _ _ _ :: _, h => h.elim
theorem ngF.of_split : ∀ {fs : List Frame}, splitAtGen fs = none → ngF fs
  | [], _ => trivial
  | .ret _ _ _ _ _ _ _ :: fs, h => by
    refine ngF.of_split (fs := fs) ?_
    have z : (splitAtGen fs).map _ = none := h
    cases q : splitAtGen fs with
    | none => rfl
    | some u => rw [q] at z; cases z
  | .gen _ _ _ _ _ :: _, h => by cases h
def ngG : GenState → Prop
  | .suspended _ _ _ _ fs _ => ngF fs
  | _ => True
def ngE : End → Prop
  | .susp _ _ _ _ _ _ fs => ngF fs
  | _ => True
theorem ngE.st {e : End} (h : ngE e) : ngG e.genState := by
  cases e with
  | ret r => trivial
  | susp v g l k c p fs => exact h
def isSus : GenState → Bool
  | .suspended _ _ _ _ _ _ => true
  | _ => false
/-- a frame that stands there and does nothing -/
def deadF (F : Frame) : Frame := .ret (fun _ => .unsupported "") none false [] F.where_.1 F.where_.2 []
/-- it looks alike, and cannot be woken -/
def deadG : GenState → GenState
  | .suspended _ _ c p fs _ => .suspended (fun _ => .unsupported "") [] c p (fs.map deadF) false
  | x => x
theorem deadG.seen (x : GenState) : (deadG x).seen = x.seen := by
  cases x with
  | suspended k l c p fs cl =>
    show (GenStatus.suspended, some ((c, p) :: (fs.map deadF).map Frame.where_)) = (GenStatus.suspended, some ((c, p) :: fs.map Frame.where_))
    rw [List.map_map]
    have : (Frame.where_ ∘ deadF) = Frame.where_ := by
      funext F
      cases F <;> rfl
    rw [this]
  | _ => rfl
theorem deadG.ng (x : GenState) : ngG (deadG x) := by
  cases x with
  | suspended k l c p fs cl =>
    show ngF (fs.map deadF)
    induction fs with
    | nil => trivial
    | cons F fs ih => exact ih
  | _ => trivial
theorem deadG.bare {x : GenState} (h : x.bare = true) : (deadG x).bare = true := by
  cases x <;> first | exact h | rfl
def ngs (a : Array GenState) : Prop := ∀ (i : Nat) (y : GenState), a[i]? = some y → ngG y
theorem ngs.push {a : Array GenState} {y : GenState} (h : ngs a) (hy : ngG y) : ngs (a.push y) := fun i z e => by
  rw [Array.getElem?_push] at e
  split at e
  · cases e; exact hy
  · exact h i z e
theorem ngs.set {a : Array GenState} {g : Nat} {y : GenState} (h : ngs a) (hy : ngG y) : ngs (a.setIfInBounds g y) := fun i z e => by
  rw [Array.getElem?_setIfInBounds] at e
  split at e
  · split at e
    · cases e; exact hy
    · cases e
  · exact h i z e
/-- the true entries put back -/
def rest (ρ : Nat → Option GenState) (s : Shared) : Shared := { s with gens := s.gens.mapIdx fun i y => (ρ i).getD y }
/-- the state has the dead entries -/
def DeadAt (ρ : Nat → Option GenState) (s : Shared) : Prop := ∀ i x, ρ i = some x → isSus x = true ∧ s.gens[i]? = some (deadG x)
section
variable {ρ : Nat → Option GenState} {s s' : Shared} {M : Model} {Γ : Ctx} {p : Pos}
theorem rest_get (i : Nat) : (rest ρ s).gens[i]? = s.gens[i]?.map fun y => (ρ i).getD y := by
  show (s.gens.mapIdx _)[i]? = _
  rw [Array.getElem?_mapIdx]
theorem rest_free {i : Nat} (h : ρ i = none) : (rest ρ s).gens[i]? = s.gens[i]? := by
  rw [rest_get, h]
  cases s.gens[i]? <;> rfl
theorem rest_at {i : Nat} {x : GenState} (d : DeadAt ρ s) (h : ρ i = some x) : (rest ρ s).gens[i]? = some x := by
  rw [rest_get, (d i x h).2, h]
  rfl
theorem rest_size : (rest ρ s).gens.size = s.gens.size := by
  show (s.gens.mapIdx _).size = _
  rw [Array.size_mapIdx]
theorem rest_seen {i : Nat} {y : GenState} (d : DeadAt ρ s) (h : s.gens[i]? = some y) : ∃ z, (rest ρ s).gens[i]? = some z ∧ z.seen = y.seen := by
  cases q : ρ i with
  | none => exact ⟨y, by rw [rest_free q]; exact h, rfl⟩
  | some x =>
    refine ⟨x, rest_at d q, ?_⟩
    have := (d i x q).2
    rw [h] at this
    cases this
    exact (deadG.seen x).symm
theorem DeadAt.push (d : DeadAt ρ s) (y : GenState) : DeadAt ρ { s with gens := s.gens.push y } := fun i x h => by
  obtain ⟨h1, h2⟩ := d i x h
  refine ⟨h1, ?_⟩
  show (s.gens.push y)[i]? = _
  rw [Array.getElem?_push]
  have : i < s.gens.size := (Array.getElem?_eq_some_iff.mp h2).1
  rw [if_neg (by omega)]
  exact h2
theorem rest_push (d : DeadAt ρ s) (y : GenState) : rest ρ { s with gens := s.gens.push y } = { rest ρ s with gens := (rest ρ s).gens.push y } := by
  show ({ s with gens := _ } : Shared) = { s with gens := _ }
  congr 1
  apply Array.ext_getElem?
  intro i
  have hn : ρ s.gens.size = none := by
    cases q : ρ s.gens.size with
    | none => rfl
    | some x =>
      have := (Array.getElem?_eq_some_iff.mp (d _ x q).2).1
      omega
  rw [Array.getElem?_mapIdx, Array.getElem?_push, Array.getElem?_push]
  have hs : (rest ρ s).gens.size = s.gens.size := rest_size
  rw [hs]
  split
  · rename_i e
    rw [e, hn]
    rfl
  · rw [rest_get]
theorem DeadAt.set (d : DeadAt ρ s) {g : Nat} (hg : ρ g = none) (y : GenState) : DeadAt ρ (s.setGen g y) := fun i x h => by
  obtain ⟨h1, h2⟩ := d i x h
  refine ⟨h1, ?_⟩
  have hne : g ≠ i := fun z => by rw [z, h] at hg; cases hg
  show (s.gens.setIfInBounds g y)[i]? = _
  rw [Array.getElem?_setIfInBounds_ne hne]
  exact h2
theorem rest_set {g : Nat} (hg : ρ g = none) (y : GenState) : rest ρ (s.setGen g y) = (rest ρ s).setGen g y := by
  show ({ s with gens := _ } : Shared) = { s with gens := _ }
  congr 1
  apply Array.ext_getElem?
  intro i
  show ((s.gens.setIfInBounds g y).mapIdx _)[i]? = ((rest ρ s).gens.setIfInBounds g y)[i]?
  rw [Array.getElem?_mapIdx, Array.getElem?_setIfInBounds, Array.getElem?_setIfInBounds]
  rw [rest_size, rest_get]
  split
  · rename_i e
    subst e
    split
    · rw [hg]; rfl
    · rfl
  · rfl
/-- nothing runs from an unsupported step -/
theorem runs_uns0 {w : String} {e : End} (h : Runs M Γ p (.unsupported w) [] s e s') : False := by cases h
theorem runs_uns {w : String} {fs : List Frame} {e : End} (h : Runs M Γ p (.unsupported w) fs s e s') : False := by
  cases h with
  | segRet a b => exact runs_uns0 a
  | segGen a b => exact runs_uns0 a
  | segSuspOut a b => exact runs_uns0 b
  | segSuspGen a b => exact runs_uns0 b
theorem not_dead {g : Nat} {y : GenState} (d : DeadAt ρ s) (h : s.gens[g]? = some y) (hy : isSus y = false) : ρ g = none := by
  cases q : ρ g with
  | none => rfl
  | some x =>
    obtain ⟨h1, h2⟩ := d g x q
    rw [h] at h2
    cases h2
    cases x <;> cases h1
    cases hy
theorem runs_swap {t : Sem PySem.Fin} {fs : List Frame} {e : End} (h : Runs M Γ p t fs s e s') : DeadAt ρ s → ngs s.gens → ngF fs → Runs M Γ p t fs (rest ρ s) e (rest ρ s') ∧ DeadAt ρ s' ∧ ngs s'.gens ∧ ngE e := by
  induction h with
  | done => exact fun d n _ => ⟨.done, d, n, trivial⟩
  | raise => exact fun d n _ => ⟨.raise, d, n, trivial⟩
  | again hq _ ih => exact fun d n f => let ⟨a, b⟩ := ih d n f; ⟨.again hq a, b⟩
  | rule _ ih => exact fun d n f => let ⟨a, b⟩ := ih d n f; ⟨.rule a, b⟩
  | «at» _ ih => exact fun d n f => let ⟨a, b⟩ := ih d n f; ⟨.at a, b⟩
  | load ho _ ih => exact fun d n f => let ⟨a, b⟩ := ih d n f; ⟨.load ho a, b⟩
  | update ho _ ih => exact fun d n f => let ⟨a, b⟩ := ih d n f; ⟨.update ho a, b⟩
  | loadIfAlive _ ih => exact fun d n f => let ⟨a, b⟩ := ih d n f; ⟨.loadIfAlive a, b⟩
  | point _ ih => exact fun d n f => let ⟨a, b⟩ := ih d n f; ⟨.point a, b⟩
  | alloc _ ih => exact fun d n f => let ⟨a, b⟩ := ih d n f; ⟨.alloc a, b⟩
  | fresh _ ih => exact fun d n f => let ⟨a, b⟩ := ih d n f; ⟨.fresh a, b⟩
  | ask _ ih => exact fun d n f => let ⟨a, b⟩ := ih d n f; ⟨.ask a, b⟩
  | choose hn _ ih => exact fun d n f => let ⟨a, b⟩ := ih d n f; ⟨.choose hn a, b⟩
  | os _ ih => exact fun d n f => let ⟨a, b⟩ := ih d n f; ⟨.os a, b⟩
  | handled _ ih => exact fun d n f => let ⟨a, b⟩ := ih d n f; ⟨.handled a, b⟩
  | genState hg _ ih =>
    intro d n f
    obtain ⟨a, b⟩ := ih d n f
    obtain ⟨z, h1, h2⟩ := rest_seen d hg
    exact ⟨.genState h1 (by rw [h2]; exact a), b⟩
  | stack _ ih => exact fun d n f => let ⟨a, b⟩ := ih d n f; ⟨.stack a, b⟩
  | thread _ ih => exact fun d n f => let ⟨a, b⟩ := ih d n f; ⟨.thread a, b⟩
  | newGen _ ih =>
    intro d n f
    obtain ⟨a, b⟩ := ih (d.push _) (n.push trivial) f
    rw [rest_push d] at a
    refine ⟨.newGen (by rw [rest_size]; exact a), b⟩
  | call _ _ ih1 ih2 =>
    intro d n f
    obtain ⟨a, b, c, _⟩ := ih1 d n f
    obtain ⟨a2, b2⟩ := ih2 b c f
    exact ⟨.call a a2, b2⟩
  | callSusp _ ih =>
    intro d n f
    obtain ⟨a, b, c, e⟩ := ih d n f
    exact ⟨.callSusp a, b, c, ngF.app e trivial⟩
  | yield => exact fun d n f => ⟨.yield, d, n, trivial⟩
  | resumeFresh hg _ hq _ ih1 ih2 =>
    intro d n f
    have hn := not_dead d hg rfl
    obtain ⟨a, b, c, e⟩ := ih1 (d.set hn _) (n.set trivial) trivial
    obtain ⟨a2, b2⟩ := ih2 (b.set hn _) (c.set e.st) f
    rw [rest_set hn] at a a2
    exact ⟨.resumeFresh (by rw [rest_free hn]; exact hg) a hq a2, b2⟩
  | @resumeSuspended Γ p g r l k s k₀ l₀ c₀ p₀ fs cl e₁ s₁ e s' hg hr hq _ ih1 ih2 =>
    intro d n f
    cases q : ρ g with
    | some x =>
      exfalso
      obtain ⟨h1, h2⟩ := d g x q
      rw [hg] at h2
      cases x with
      | suspended k l c p fs cl =>
        cases h2
        exact runs_uns hr
      | _ => cases h1
    | none =>
      obtain ⟨a, b, c, e⟩ := ih1 (d.set q _) (n.set trivial) (n g _ hg)
      obtain ⟨a2, b2⟩ := ih2 (b.set q _) (c.set e.st) f
      rw [rest_set q] at a a2
      exact ⟨.resumeSuspended (by rw [rest_free q]; exact hg) a hq a2, b2⟩
  | resumeJustStarted hg hv _ ih =>
    intro d n f
    obtain ⟨a, b⟩ := ih d n f
    exact ⟨.resumeJustStarted (by rw [rest_free (not_dead d hg rfl)]; exact hg) hv a, b⟩
  | resumeThrowFresh hg _ ih =>
    intro d n f
    have hn := not_dead d hg rfl
    obtain ⟨a, b⟩ := ih (d.set hn _) (n.set trivial) f
    rw [rest_set hn] at a
    exact ⟨.resumeThrowFresh (by rw [rest_free hn]; exact hg) a, b⟩
  | resumeRunning hg _ ih =>
    intro d n f
    obtain ⟨a, b⟩ := ih d n f
    exact ⟨.resumeRunning (by rw [rest_free (not_dead d hg rfl)]; exact hg) a, b⟩
  | resumeFinished hg _ ih =>
    intro d n f
    obtain ⟨a, b⟩ := ih d n f
    exact ⟨.resumeFinished (by rw [rest_free (not_dead d hg rfl)]; exact hg) a, b⟩
  | segRet _ _ ih1 ih2 =>
    intro d n f
    obtain ⟨a, b, c, _⟩ := ih1 d n trivial
    obtain ⟨a2, b2⟩ := ih2 b c f
    exact ⟨.segRet a a2, b2⟩
  | segGen _ _ _ _ => exact fun d n f => f.elim
  | segSuspOut hs _ ih =>
    intro d n f
    obtain ⟨a, b, c, e⟩ := ih d n trivial
    exact ⟨.segSuspOut hs a, b, c, ngF.app e f⟩
  | segSuspGen hs _ _ _ _ _ => exact fun d n f => by rw [f.split] at hs; cases hs
theorem wakes_swap {g : Nat} {r : Resume} {res : GenResult} (h : Wakes M Γ p g r s res s') (d : DeadAt ρ s) (n : ngs s.gens) : Wakes M Γ p g r (rest ρ s) res (rest ρ s') ∧ DeadAt ρ s' ∧ ngs s'.gens := by
  unfold Wakes at h ⊢
  cases q : s.gens[g]? with
  | none => rw [q] at h; exact h.elim
  | some y =>
    rw [q] at h
    cases y with
    | fresh c =>
      have hn := not_dead d q rfl
      rw [rest_free hn, q]
      dsimp only at h ⊢
      cases r with
      | throw x =>
        obtain ⟨h1, h2⟩ := h
        subst h2
        exact ⟨⟨h1, rest_set hn _⟩, d.set hn _, n.set trivial⟩
      | send v =>
        cases v <;> dsimp only at h ⊢
        case none =>
          obtain ⟨e₁, s₁, hr, hq, h1, h2⟩ := h
          obtain ⟨a, b, c, e⟩ := runs_swap hr (d.set hn _) (n.set trivial) trivial
          rw [rest_set hn] at a
          subst h2
          exact ⟨⟨e₁, rest ρ s₁, a, hq, h1, rest_set hn _⟩, b.set hn _, c.set e.st⟩
        all_goals
          obtain ⟨h1, h2⟩ := h
          subst h2
          exact ⟨⟨h1, rfl⟩, d, n⟩
    | suspended k₀ l₀ c₀ p₀ fs cl =>
      dsimp only at h
      obtain ⟨e₁, s₁, hr, hq, h1, h2⟩ := h
      cases q2 : ρ g with
      | some x =>
        exfalso
        obtain ⟨z1, z2⟩ := d g x q2
        rw [q] at z2
        cases x with
        | suspended k l c p fs cl =>
          cases z2
          exact runs_uns hr
        | _ => cases z1
      | none =>
        rw [rest_free q2, q]
        dsimp only
        obtain ⟨a, b, c, e⟩ := runs_swap hr (d.set q2 _) (n.set trivial) (n g _ q)
        rw [rest_set q2] at a
        subst h2
        exact ⟨⟨e₁, rest ρ s₁, a, hq, h1, rest_set q2 _⟩, b.set q2 _, c.set e.st⟩
    | running =>
      rw [rest_free (not_dead d q rfl), q]
      dsimp only at h ⊢
      obtain ⟨h1, h2⟩ := h
      subst h2
      exact ⟨⟨h1, rfl⟩, d, n⟩
    | finished =>
      rw [rest_free (not_dead d q rfl), q]
      dsimp only at h ⊢
      obtain ⟨h1, h2⟩ := h
      subst h2
      exact ⟨⟨h1, rfl⟩, d, n⟩
/-- what is known behind: a state with the dead entries -/
def Back {α : Type} (ρ : Nat → Option GenState) (Q : α → Shared → Prop) (a : α) (s' : Shared) : Prop := ∃ s2, s' = rest ρ s2 ∧ DeadAt ρ s2 ∧ ngs s2.gens ∧ Q a s2
theorem wp_swap {α : Type} (M : Model) (Γ : Ctx) (t : Sem α) : ∀ (Q : α → Shared → Prop) (E : Value → Shared → Prop) (p : Pos) (s : Shared), DeadAt ρ s → ngs s.gens → Sem.wp M Γ t (fun a _ z => Q a z) (fun a _ z => E a z) p s →
    Sem.wp M Γ t (fun a _ z => Back ρ Q a z) (fun a _ z => Back ρ E a z) p (rest ρ s) := by
  induction t with
  | pure a => intro Q E p s d n h; exact ⟨s, rfl, d, n, h⟩
  | raise e => intro Q E p s d n h; exact ⟨s, rfl, d, n, h⟩
  | unsupported _ => intro Q E p s _ _ h; exact h.elim
  | finish _ => intro Q E p s _ _ h; exact h.elim
  | rule _ k ih => intro Q E p s d n h; exact ih () Q E p s d n h
  | «at» p' k ih => intro Q E p s d n h; exact ih () Q E p' s d n h
  | load a _ k ih => intro Q E p s d n h; obtain ⟨o, ho, h⟩ := h; exact ⟨o, ho, ih o Q E p s d n h⟩
  | update a _ f k ih => intro Q E p s d n h; exact ⟨h.1, ih () Q E p { s with heap := s.heap.update a f } d n h.2⟩
  | loadIfAlive a k ih => intro Q E p s d n h; exact ih _ Q E p s d n h
  | point _ k ih => intro Q E p s d n h; exact ih () Q E p s d n h
  | register _ _ => intro Q E p s _ _ h; exact h.elim
  | alloc o k ih => intro Q E p s d n h; exact ih _ Q E p { s with heap := s.heap.push o } d n h
  | fresh k ih => intro Q E p s d n h; exact ih _ Q E p { s with toks := s.toks + 1 } d n h
  | ask k ih => intro Q E p s d n h; exact ih _ Q E p s d n h
  | choose src m k ih => intro Q E p s d n h; exact ⟨h.1, ih _ Q E p { s with drawn := s.drawn.bump src } d n h.2⟩
  | os q _ k ih => intro Q E p s d n h; exact ih _ Q E p { s with os := (Os.step s.os q).1 } d n h
  | call c hd _ _ k ih =>
    intro Q E p s d n h
    obtain ⟨r, s', hr, h⟩ := h
    obtain ⟨a, b, c, _⟩ := runs_swap hr d n trivial
    exact ⟨r, rest ρ s', a, ih r Q E p s' b c h⟩
  | handled own k ih => intro Q E p s d n h; exact ih _ Q E p s d n h
  | genState g k ih =>
    intro Q E p s d n h
    obtain ⟨st, hs, h⟩ := h
    obtain ⟨z, h1, h2⟩ := rest_seen d hs
    exact ⟨z, h1, by rw [h2]; exact ih _ Q E p s d n h⟩
  | newGen c k ih =>
    intro Q E p s d n h
    have z := ih _ Q E p { s with gens := s.gens.push (.fresh c) } (d.push _) (n.push trivial) h
    rw [rest_push d] at z
    show Sem.wp M Γ (k (rest ρ s).gens.size) _ _ p _
    rw [rest_size]
    exact z
  | resume g r _ k ih =>
    intro Q E p s d n h
    obtain ⟨res, s', hw, h⟩ := h
    obtain ⟨a, b, c⟩ := wakes_swap hw d n
    exact ⟨res, rest ρ s', a, ih res Q E p s' b c h⟩
  | yield _ _ _ _ => intro Q E p s _ _ h; exact h.elim
  | stack k ih => intro Q E p s d n h; exact ih _ Q E p s d n h
  | fork _ _ => intro Q E p s _ _ h; exact h.elim
  | thread k ih => intro Q E p s d n h; exact ih _ Q E p s d n h
  | await _ _ _ _ _ => intro Q E p s _ _ h; exact h.elim
theorem wpAny_swap {α : Type} {A : Around} {t : Sem α} {Q : α → Shared → Prop} {E : Value → Shared → Prop} (d : DeadAt ρ s) (n : ngs s.gens) (h : wpAny M A t Q E s) : wpAny M A t (Back ρ Q) (Back ρ E) (rest ρ s) :=
  fun Γ p hΓ => wp_swap M Γ t Q E p s d n (h Γ p hΓ)
/-- those that sleep, but for U -/
noncomputable def sleeps (U : Nat → Prop) (a : Array GenState) : Nat → Option GenState := fun i => @ite _ (U i) (Classical.propDecidable _) none (match a[i]? with
  | some x => if isSus x = true then some x else none
  | none => none)
noncomputable def dead (U : Nat → Prop) (s : Shared) : Shared := { s with gens := s.gens.mapIdx fun i y => if (sleeps U s.gens i).isSome = true then deadG y else y }
theorem sleeps_some {U : Nat → Prop} {a : Array GenState} {i : Nat} {x : GenState} (h : sleeps U a i = some x) : ¬ U i ∧ a[i]? = some x ∧ isSus x = true := by
  unfold sleeps at h
  split at h
  · cases h
  · rename_i hu
    refine ⟨hu, ?_⟩
    split at h
    · rename_i y e
      split at h
      · rename_i z
        cases h
        exact ⟨e, z⟩
      · cases h
    · cases h
theorem sleeps_of {U : Nat → Prop} {a : Array GenState} {i : Nat} {x : GenState} (hu : ¬ U i) (h : a[i]? = some x) (hx : isSus x = true) : sleeps U a i = some x := by
  unfold sleeps
  rw [if_neg hu, h]
  dsimp only
  rw [if_pos hx]
theorem dead_get {U : Nat → Prop} {i : Nat} : (dead U s).gens[i]? = s.gens[i]?.map fun y => if (sleeps U s.gens i).isSome = true then deadG y else y := by
  show (s.gens.mapIdx _)[i]? = _
  rw [Array.getElem?_mapIdx]
theorem dead_at {U : Nat → Prop} : DeadAt (sleeps U s.gens) (dead U s) := fun i x h => by
  obtain ⟨h1, h2, h3⟩ := sleeps_some h
  refine ⟨h3, ?_⟩
  rw [dead_get, h2, h]
  rfl
theorem dead_back {U : Nat → Prop} : rest (sleeps U s.gens) (dead U s) = s := by
  show ({ s with gens := _ } : Shared) = s
  have : ((dead U s).gens.mapIdx fun i y => ((sleeps U s.gens) i).getD y) = s.gens := by
    apply Array.ext_getElem?
    intro i
    rw [Array.getElem?_mapIdx, dead_get]
    cases q : s.gens[i]? with
    | none => rfl
    | some y =>
      cases q2 : sleeps U s.gens i with
      | none => rfl
      | some x =>
        obtain ⟨_, h2, _⟩ := sleeps_some q2
        rw [q] at h2
        cases h2
        rfl
  rw [this]
theorem dead_ng {U : Nat → Prop} (h : ∀ (i : Nat) (x : GenState), U i → s.gens[i]? = some x → ngG x) : ngs (dead U s).gens := fun i y e => by
  rw [dead_get] at e
  cases q : s.gens[i]? with
  | none => rw [q] at e; cases e
  | some x =>
    rw [q] at e
    have e : (if (sleeps U s.gens i).isSome = true then deadG x else x) = y := Option.some.inj e
    split at e
    · rw [← e]; exact deadG.ng x
    · rename_i hn
      rw [← e]
      by_cases hu : U i
      · exact h i x hu q
      · cases x with
        | suspended k l c p fs cl =>
          rw [sleeps_of hu q rfl] at hn
          exact absurd rfl hn
        | _ => trivial
theorem bare_get {a : Array GenState} (h : AllBare a) {i : Nat} {x : GenState} (e : a[i]? = some x) : x.bare = true := h x (Array.mem_of_getElem? e)
theorem bare_of {a : Array GenState} (h : ∀ (i : Nat) x, a[i]? = some x → x.bare = true) : AllBare a := fun y hy => by
  obtain ⟨i, hi⟩ := Array.mem_iff_getElem?.mp hy
  exact h i y hi
theorem dead_bare {U : Nat → Prop} (h : AllBare s.gens) : AllBare (dead U s).gens := bare_of fun i y e => by
  rw [dead_get] at e
  cases q : s.gens[i]? with
  | none => rw [q] at e; cases e
  | some x =>
    rw [q] at e
    have e : (if (sleeps U s.gens i).isSome = true then deadG x else x) = y := Option.some.inj e
    split at e
    · rw [← e]; exact deadG.bare (bare_get h q)
    · rw [← e]; exact bare_get h q
/-- those that sleep in s, but for U, are as they were in s' -/
def KeptG (U : Nat → Prop) (s s' : Shared) : Prop := ∀ (i : Nat) (x : GenState), ¬ U i → s.gens[i]? = some x → isSus x = true → s'.gens[i]? = some x
theorem KeptG.refl {U : Nat → Prop} : KeptG U s s := fun _ _ _ h _ => h
theorem KeptG.trans {U : Nat → Prop} {s1 : Shared} (a : KeptG U s s1) (b : KeptG U s1 s') : KeptG U s s' := fun i x u h z => b i x u (a i x u h z) z
theorem back_kept {U : Nat → Prop} {s2 : Shared} (d : DeadAt (sleeps U s.gens) s2) : KeptG U s (rest (sleeps U s.gens) s2) := fun i x u h z => rest_at d (sleeps_of u h z)
theorem back_bare {U : Nat → Prop} {s2 : Shared} (d : DeadAt (sleeps U s.gens) s2) (h : AllBare s.gens) (h2 : AllBare s2.gens) : AllBare (rest (sleeps U s.gens) s2).gens := bare_of fun i y e => by
  cases q : sleeps U s.gens i with
  | none => rw [rest_free q] at e; exact bare_get h2 e
  | some x =>
    rw [rest_at d q] at e
    cases e
    exact bare_get h (sleeps_some q).2.1
/-- THE RULE: what runs from every table alike leaves the sleeping ones as they are -/
theorem wpAny_kept {α : Type} {A : Around} {t : Sem α} {Q Q' : α → Shared → Prop} {E E' : Value → Shared → Prop} (U : Nat → Prop) (hU : ∀ (i : Nat) (x : GenState), U i → s.gens[i]? = some x → ngG x)
    (h : wpAny M A t Q E (dead U s)) (hQ : ∀ a s2, DeadAt (sleeps U s.gens) s2 → ngs s2.gens → Q a s2 → KeptG U s (rest (sleeps U s.gens) s2) → Q' a (rest (sleeps U s.gens) s2))
    (hE : ∀ a s2, DeadAt (sleeps U s.gens) s2 → ngs s2.gens → E a s2 → KeptG U s (rest (sleeps U s.gens) s2) → E' a (rest (sleeps U s.gens) s2)) : wpAny M A t Q' E' s := by
  have z := wpAny_swap (ρ := sleeps U s.gens) dead_at (dead_ng hU) h
  rw [dead_back] at z
  refine wpAny_mono z (fun a s' ⟨s2, e, d, n, q⟩ => ?_) fun a s' ⟨s2, e, d, n, q⟩ => ?_
  · subst e
    exact hQ a s2 d n q (back_kept d)
  · subst e
    exact hE a s2 d n q (back_kept d)
end
end Dx
end S_DxBU
section S_DxBV
set_option Elab.async false
set_option linter.all false
set_option maxRecDepth 100000
set_option maxHeartbeats 2000000
namespace Dx
open PySem L2
open PyProof.Rows hiding St
open GenW
/-- the stretch ends so -/
def GRun (M : Model) (A : Around) (Φ : End → Shared → Prop) (c : Code) (t : Sem PySem.Fin) (fs : List Frame) (s : Shared) : Prop :=
  ∀ Γ p, Γ.code = c → Γ.Woken A → ∃ e s', Runs M Γ p t fs s e s' ∧ Φ e s'
theorem wp_false {α : Type} {M : Model} {Γ : Ctx} (t : Sem α) : ∀ {p : Pos} {s : Shared}, Sem.wp M Γ t (fun _ _ _ => False) (fun _ _ _ => False) p s → False := by
  induction t with
  | pure a => intro p s h; exact h
  | raise e => intro p s h; exact h
  | unsupported _ => intro p s h; exact h
  | finish _ => intro p s h; exact h
  | rule _ k ih => intro p s h; exact ih () h
  | «at» q k ih => intro p s h; exact ih () h
  | load a _ k ih => intro p s h; obtain ⟨o, _, h⟩ := h; exact ih o h
  | update a _ f k ih => intro p s h; exact ih () h.2
  | loadIfAlive a k ih => intro p s h; exact ih _ h
  | point _ k ih => intro p s h; exact ih () h
  | register _ _ => intro p s h; exact h
  | alloc o k ih => intro p s h; exact ih _ h
  | fresh k ih => intro p s h; exact ih _ h
  | ask k ih => intro p s h; exact ih _ h
  | choose src m k ih => intro p s h; exact ih _ h.2
  | os q _ k ih => intro p s h; exact ih _ h
  | call c hd _ _ k ih => intro p s h; obtain ⟨r, z, _, h⟩ := h; exact ih r h
  | handled own k ih => intro p s h; exact ih _ h
  | genState g k ih => intro p s h; obtain ⟨st, _, h⟩ := h; exact ih _ h
  | newGen c k ih => intro p s h; exact ih _ h
  | resume g r _ k ih => intro p s h; obtain ⟨res, z, _, h⟩ := h; exact ih res h
  | yield _ _ _ _ => intro p s h; exact h
  | stack k ih => intro p s h; exact ih _ h
  | fork _ _ => intro p s h; exact h
  | thread k ih => intro p s h; exact ih _ h
  | await _ _ _ _ _ => intro p s h; exact h
section
variable {M : Model} {A : Around} {Φ : End → Shared → Prop} {c : Code} {fs : List Frame} {s : Shared} {env : Env} {K : Flow → Sem PySem.Fin} {J : Value → Sem PySem.Fin} {gd : Bool → Bool} {lv : List Value → List Value}
theorem gr_false {α : Type} {m : Sem α} {t : Sem PySem.Fin} {z : Shared} (h : wpAny M (A.over c fs) m (fun _ _ => False) (fun _ _ => False) z) : GRun M A Φ c t fs s := by
  rintro Γ p rfl w
  exact (wp_false m (h (Γ.over fs) p (w.over fs))).elim
theorem gr_wrap {α : Type} {m : Sem α} {K : α → Sem PySem.Fin} {J : Value → Sem PySem.Fin} {gd : Bool → Bool} {lv : List Value → List Value} (h : wpAny M (A.over c fs) m (fun a z => GRun M A Φ c (K a) fs z) (fun x z => GRun M A Φ c (J x) fs z) s) : GRun M A Φ c (m.wrap K J gd lv) fs s := by
  rintro Γ p rfl w
  exact runs_wrap_of_wp K J gd lv m (h (Γ.over fs) p (w.over fs)) (fun a q z x => x Γ q rfl w) fun e q z x => x Γ q rfl w
theorem gr_at {p' : Pos} {k : Unit → Sem PySem.Fin} (h : GRun M A Φ c (k ()) fs s) : GRun M A Φ c (.at p' k) fs s := by
  rintro Γ p rfl w
  obtain ⟨e, z, r, q⟩ := h Γ p' rfl w
  exact ⟨e, z, Runs.head' (fun _ _ x => .at x) r, q⟩
theorem gr_point {l : List Value} {k : Unit → Sem PySem.Fin} (h : GRun M A Φ c (k ()) fs s) : GRun M A Φ c (.point l k) fs s := by
  rintro Γ p rfl w
  obtain ⟨e, z, r, q⟩ := h Γ p rfl w
  exact ⟨e, z, Runs.head' (fun _ _ x => .point x) r, q⟩
theorem gr_call {d : Code} {h : Option Value} {g : Bool} {l : List Value} {k : Result → Sem PySem.Fin} (q : ∀ p, GRun M A Φ d (M.den d) (.ret k h g l c p [] :: fs) s) : GRun M A Φ c (.call d h g l k) fs s := by
  rintro Γ p rfl w
  obtain ⟨e, z, r, y⟩ := q p (Γ.goto d) p rfl (w.goto d)
  exact ⟨e, z, runs_call_seg r, y⟩
theorem gr_leaf {k : Result → Sem PySem.Fin} {h : Option Value} {g : Bool} {l kp : List Value} {c1 : Code} {p1 : Pos} (r : Result) (q : GRun M A Φ c1 (k r) fs s) : GRun M A Φ c (leafOf r) (.ret k h g l c1 p1 kp :: fs) s := by
  rintro Γ p rfl w
  obtain ⟨e, z, x, y⟩ := q (Γ.goto c1) p1 rfl (w.goto c1)
  exact ⟨e, z, Runs.pop r x, y⟩
theorem gr_again {d : Code} (hq : d.quiet = true) (q : GRun M A Φ d (M.den d) fs s) : GRun M A Φ c (.pure (.again d)) fs s := by
  rintro Γ p rfl w
  obtain ⟨e, z, x, y⟩ := q (Γ.goto d) p rfl (w.goto d)
  exact ⟨e, z, Runs.head (c₁ := d) (fun _ _ b => .again hq b) x, y⟩
theorem gr_end (r : Result) (h : Φ (.ret r) s) : GRun M A Φ c (leafOf r) [] s := by
  rintro Γ p rfl _
  exact ⟨.ret r, s, Runs.leaf r, h⟩
theorem gr_yield {v : Value} {g : Bool} {l : List Value} {k : Resume → Sem PySem.Fin} (hf : splitAtGen fs = none) (h : ∀ p, Φ (.susp v g l k c p fs) s) : GRun M A Φ c (.yield v g l k) fs s := by
  rintro Γ p rfl _
  exact ⟨_, s, Runs.yield' fs hf, h p⟩
/-- what stands in the table can go on so -/
def GoG (M : Model) (A : Around) (Φ : End → Shared → Prop) (gs : GenState) (s : Shared) : Prop :=
  match gs with
  | .fresh c => GRun M A Φ c (M.den c) [] s
  | .suspended k _ c _ fs _ => GRun M A Φ c (k (.send .none)) fs s
  | _ => False
theorem wpAny_wakeG {α : Type} {E : Value → Shared → Prop} {g : Nat} {gs : GenState} {l : List Value} {k : GenResult → Sem α} {Q : α → Shared → Prop} (hg : s.gens[g]? = some gs) (go : GoG M A Φ gs (s.setGen g .running))
    (h : ∀ e z, Φ e z → e.quiet = true ∧ wpAny M A (k e.result) Q E (z.setGen g e.genState)) : wpAny M A (.resume g (.send .none) l k) Q E s := by
  intro Γ p w
  rw [Sem.wp_resume]
  cases gs with
  | fresh c =>
    obtain ⟨e, z, r, y⟩ := go (Γ.wake c p) p rfl (w.wake c p)
    obtain ⟨h1, h2⟩ := h e z y
    refine ⟨_, _, ?_, h2 Γ p w⟩
    unfold Wakes
    rw [hg]
    exact ⟨e, z, r, h1, rfl, rfl⟩
  | suspended k0 l0 c p0 fs0 cl =>
    obtain ⟨e, z, r, y⟩ := go (Γ.wake c p) p0 rfl (w.wake c p)
    obtain ⟨h1, h2⟩ := h e z y
    refine ⟨_, _, ?_, h2 Γ p w⟩
    unfold Wakes
    rw [hg]
    exact ⟨e, z, r, h1, rfl, rfl⟩
  | running => exact go.elim
  | finished => exact go.elim
end
section
variable {prog : Program} {w : World} {A : Around} {Φ : End → Shared → Prop} {E : Value → Shared → Prop} {s : Shared} {c : Code} {fs : List Frame} {env : Env} {K : Flow → Sem PySem.Fin} {J : Value → Sem PySem.Fin} {gd : Bool → Bool} {lv : List Value → List Value} {Xe : Value → Shared → Prop}
/-- next of a generator -/
theorem wpAny_nextG {a : Addr} {g : Nat} {gs : GenState} {Q : Option Value → Shared → Prop} (hh : A.handled = none) (hl : s.heap.NoLimit) (hroom : A.depth < recursionLimit) (hg : s.heap.IsGen a g) (hgs : s.gens[g]? = some gs) (go : GoG (model prog w) A.in1 Φ gs (s.setGen g .running))
    (hY : ∀ v gd l k c p fs z, Φ (.susp v gd l k c p fs) z → (End.susp v gd l k c p fs).quiet = true ∧ Q (some v) (z.setGen g (End.susp v gd l k c p fs).genState))
    (hN : ∀ r z, Φ (.ret r) z → (r = .ok (.ret .none) ∨ r = .ok .next) ∧ ∀ h', (∀ b o, z.heap.get? b = some o → h'.get? b = some o) → Q none { z.setGen g .finished with heap := h' }) : wpAny (model prog w) A (pyNext (.ref a)) Q E s := by
  unfold pyNext
  refine wpAny_bind (wpAny_attempt ?_)
  refine wpAny_callSpecial?_slot (name := Str.ofString "__next__") hg.typeIs slot_gen_next ?_
  refine wpAny_call_entry slot_gen_next hg.typeIs entry_gen_next ?_ (args_gen_next _)
  show wpAny (model prog w) A.in1 (Builtin.Generator.genWake (.ref a) (.send .none)) _ _ s
  unfold Builtin.Generator.genWake
  refine wpAny_bind (wpAny_holding (wpAny_genNumber hg ?_))
  refine wpAny_bind (wpAny_genState hgs ?_)
  cases gs with
  | running => exact go.elim
  | finished => exact go.elim
  | _ =>
    refine wpAny_bind (wpAny_roomToWake hl hroom ?_)
    show wpAny (model prog w) A.in1 (.resume g (.send .none) [] _) _ _ s
    refine wpAny_wakeG hgs go fun e z hz => ?_
    cases e with
    | susp v gd l k c p fs =>
      obtain ⟨h1, h2⟩ := hY v gd l k c p fs z hz
      exact ⟨h1, wpAny_pure ⟨v, rfl, wpAny_pure h2⟩⟩
    | ret r =>
      obtain ⟨h1, h2⟩ := hN r z hz
      refine ⟨rfl, ?_⟩
      have hres : End.result (.ret r) = .returned .none := by
        rcases h1 with h1 | h1 <;> subst h1 <;> rfl
      rw [hres]
      show wpAny (model prog w) A.in1 (newExc (.type "StopIteration") [] >>= _) _ _ _
      refine wpAny_bind ?_
      simp only [newExc, newTuple]
      refine wpAny_bind (wpAny_newObj_type ?_ (by size_fits))
      refine wpAny_bind (m := firstArgMember _ _) ?_
      refine wpAny_of_eq (a := Value.none) (by first | rfl | (simp only [firstArgMember]; rfl)) ?_
      refine wpAny_newObj_type ?_ (by size_fits)
      simp only [raiseNew]
      refine wpAny_bind (wpAny_bind (wpAny_handled ?_))
      have ha : A.in1.handled = none := hh
      first | rw [ha] | rw [hh]
      refine wpAny_throw ?_
      refine wpAny_bind ?_
      refine wpAny_isInstance (T := "StopIteration") (b := true) ⟨_, Heap.get?_push_size _ rfl, rfl⟩ isSubtype_stop ?_
      exact wpAny_pure (h2 _ fun b o hb => Heap.get?_push_of_some _ (Heap.get?_push_of_some _ hb))
/-- a turn's end -/
def turnK (d : Code) : Flow → Sem PySem.Fin
  | .next => .pure (.again d)
  | .cont => .pure (.again d)
  | .brk => .pure (.done .next)
  | .ret v => .pure (.done (.ret v))
theorem gr_while {test : Expr} {body : List Stmt} {pos : Pos} (hx : ∀ x z t d ks, Xe x z → GRun (model prog w) A Φ d t ks z) (gdf : gd false = false)
    (h : ∀ k p, (∀ f, k (.ok f) = K f) → GRun (model prog w) A Φ (.whileLoop test body [] env) ((model prog w).den (.whileLoop test body [] env)) (.ret k none false (lv []) c p [] :: fs) s) : GRun (model prog w) A Φ c ((exec (.While test body [] pos) env).wrap K J gd lv) fs s := by
  rw [exec_While]
  refine gr_at (gr_call fun p => ?_)
  rw [gdf]
  exact h _ p fun f => rfl
theorem gr_whileLoop {test : Expr} {body : List Stmt} (hx : ∀ x z t, Xe x z → GRun (model prog w) A Φ (.whileLoop test body [] env) t fs z)
    (h : wpAny (model prog w) (A.over (.whileLoop test body [] env) fs) (isTrue test env (eval test env)) (fun b z => if b = true then ∀ J' : Value → Sem PySem.Fin, GRun (model prog w) A Φ (.whileLoop test body [] env) ((execs body env).wrap (turnK (.whileLoop test body [] env)) J' id id) fs z
      else GRun (model prog w) A Φ (.whileLoop test body [] env) (.pure (.done .next)) fs z) Xe s) : GRun (model prog w) A Φ (.whileLoop test body [] env) ((model prog w).den (.whileLoop test body [] env)) fs s := by
  show GRun _ A Φ _ ((whileTurn test body [] env).onRaise _) fs s
  unfold whileTurn
  rw [Sem.onRaise_eq_wrap, Sem.bind_eq_wrap', Sem.wrap_wrap]
  refine gr_wrap (wpAny_mono h (fun b z q => ?_) fun x z q => hx x z _ q)
  cases b with
  | true =>
    rw [if_pos rfl] at q
    show GRun _ A Φ _ (Sem.wrap _ _ _ _ (if true = true then _ else _)) fs z
    rw [if_pos rfl, Sem.bind_eq_wrap', Sem.wrap_wrap]
    first
      | (rw [Sem.wrap_congr (execs body env) _ _ (K' := turnK (.whileLoop test body [] env)) (fun f => by cases f <;> rfl) (fun _ => rfl)]; exact q _)
      | exact q _
  | false =>
    rw [if_neg Bool.false_ne_true] at q
    exact q
theorem gr_func {body : List Stmt} (h : ∀ J' : Value → Sem PySem.Fin, GRun (model prog w) A Φ (.func body env) ((execs body env).wrap (fun f => .pure (.done (.ret (match f with | .ret v => v | _ => .none)))) J' id id) fs s) :
    GRun (model prog w) A Φ (.func body env) ((model prog w).den (.func body env)) fs s := by
  show GRun _ A Φ _ (.point [] fun _ => ((execs body env).onRaise (leaving env)) >>= _) fs s
  refine gr_point ?_
  rw [Sem.onRaise_eq_wrap, Sem.bind_eq_wrap', Sem.wrap_wrap]
  rw [Sem.wrap_congr (execs body env) _ _ (K' := fun f => .pure (.done (.ret (match f with | .ret v => v | _ => .none)))) (fun f => by cases f <;> rfl) (fun _ => rfl)]
  exact h _
theorem gr_nil (h : GRun (model prog w) A Φ c (K .next) fs s) : GRun (model prog w) A Φ c ((execs [] env).wrap K J gd lv) fs s := h
theorem gr_cons {st : Stmt} {more : List Stmt} (h : GRun (model prog w) A Φ c ((exec st env).wrap (fun f => match f with | .next => (execs more env).wrap K J gd lv | f => K f) J gd lv) fs s) : GRun (model prog w) A Φ c ((execs (st :: more) env).wrap K J gd lv) fs s := by
  rw [execs_cons_wrap]
  exact h
/-- yield e, as a statement -/
theorem gr_yieldS {e : Expr} {yp pos : Pos} (hx : ∀ x z t, Xe x z → GRun (model prog w) A Φ c t fs z) (hf : splitAtGen fs = none) (gdf : gd false = false)
    (h : wpAny (model prog w) (A.over c fs) (eval e env) (fun v z => ∀ l k p, k (.send .none) = K .next → Φ (.susp v false l k c p fs) z) Xe s) (hco : env.scope.isCoroutine = false := by rfl) (hi : interactive env = false := by rfl) :
    GRun (model prog w) A Φ c ((exec (.Expr (.Yield (some e) yp) pos) env).wrap K J gd lv) fs s := by
  rw [exec_Expr env _ pos hi rfl]
  have hy : ∀ v, yieldOut env v = yieldValue v := fun v => by
    simp only [yieldOut, hco, Bool.false_eq_true, if_false]
  show GRun _ A Φ c (.at pos fun _ => ((eval e env >>= fun v => (standAt yp >>= fun _ => yieldOut env v)) >>= fun x => dropValue (.Yield (some e) yp) pos x).wrap K J gd lv) fs s
  simp only [hy]
  refine gr_at ?_
  rw [Sem.bind_eq_wrap', Sem.bind_eq_wrap', Sem.wrap_wrap, Sem.wrap_wrap]
  refine gr_wrap (wpAny_mono h (fun v z q => ?_) fun x z q => hx x z _ q)
  refine gr_at ?_
  show GRun _ A Φ c (.yield v (gd false) _ _) fs z
  rw [gdf]
  exact gr_yield hf fun p => q _ _ p rfl
end
end Dx
end S_DxBV
section S_DxBW
set_option Elab.async false
set_option linter.all false
set_option maxRecDepth 100000
set_option maxHeartbeats 2000000
namespace Dx
open PySem L2
open PyProof.Rows hiding St
open GenW
def GoneN (s s' : Shared) : Prop := s.heap.objs.size ≤ s'.heap.objs.size ∧ ∀ p, p < s.heap.objs.size → s.heap.get? p = none → s'.heap.get? p = none
theorem GoneN.refl {s : Shared} : GoneN s s := ⟨Nat.le_refl _, fun _ _ h => h⟩
theorem GoneN.trans {a b c : Shared} (x : GoneN a b) (y : GoneN b c) : GoneN a c := ⟨Nat.le_trans x.1 y.1, fun p h e => y.2 p (Nat.lt_of_lt_of_le h x.1) (x.2 p h e)⟩
theorem GoneN.same {a b : Shared} (h : b.heap = a.heap) : GoneN a b := by
  refine ⟨by rw [h]; exact Nat.le_refl _, fun p _ e => by rw [h]; exact e⟩
theorem GoneN.push {s : Shared} {o : Obj} {s' : Shared} (h : s'.heap = s.heap.push o) : GoneN s s' := by
  refine ⟨by rw [h, Heap.size_push]; exact Nat.le_succ _, fun p hp e => ?_⟩
  rw [h, Heap.get?_push_ne _ _ _ (Nat.ne_of_lt hp)]
  exact e
theorem GoneN.upd {s : Shared} {a : Addr} {f : Obj → Obj} {s' : Shared} (ha : (s.heap.get? a).isSome = true) (h : s'.heap = s.heap.update a f) : GoneN s s' := by
  refine ⟨by rw [h, Heap.size_update]; exact Nat.le_refl _, fun p hp e => ?_⟩
  have hne : a ≠ p := fun z => by rw [z, e] at ha; cases ha
  rw [h, Heap.get?_update_other _ _ hne]
  exact e
theorem runs_nb {M : Model} {Γ : Ctx} {p : Pos} {t : Sem PySem.Fin} {fs : List Frame} {s s' : Shared} {e : End} (h : Runs M Γ p t fs s e s') : GoneN s s' := by
  induction h with
  | done => exact .refl
  | raise => exact .refl
  | again _ _ ih => exact ih
  | rule _ ih => exact ih
  | «at» _ ih => exact ih
  | load _ _ ih => exact ih
  | update ha _ ih => exact (GoneN.upd ha rfl).trans ih
  | loadIfAlive _ ih => exact ih
  | point _ ih => exact ih
  | alloc _ ih => exact (GoneN.push rfl).trans ih
  | fresh _ ih => exact (GoneN.same rfl).trans ih
  | ask _ ih => exact ih
  | choose _ _ ih => exact (GoneN.same rfl).trans ih
  | os _ ih => exact (GoneN.same rfl).trans ih
  | handled _ ih => exact ih
  | genState _ _ ih => exact ih
  | stack _ ih => exact ih
  | thread _ ih => exact ih
  | newGen _ ih => exact (GoneN.same rfl).trans ih
  | call _ _ a b => exact a.trans b
  | callSusp _ a => exact a
  | yield => exact .refl
  | resumeFresh _ _ _ _ a b => exact ((GoneN.same rfl).trans a).trans ((GoneN.same rfl).trans b)
  | resumeSuspended _ _ _ _ a b => exact ((GoneN.same rfl).trans a).trans ((GoneN.same rfl).trans b)
  | resumeJustStarted _ _ _ a => exact a
  | resumeThrowFresh _ _ a => exact (GoneN.same rfl).trans a
  | resumeRunning _ _ a => exact a
  | resumeFinished _ _ a => exact a
  | segRet _ _ a b => exact a.trans b
  | segGen _ _ a b => exact a.trans ((GoneN.same rfl).trans b)
  | segSuspOut _ _ a => exact a
  | segSuspGen _ _ _ _ a b => exact a.trans ((GoneN.same rfl).trans b)
theorem wakes_nb {M : Model} {Γ : Ctx} {p : Pos} {g : Nat} {r : Resume} {s s' : Shared} {res : GenResult} (h : Wakes M Γ p g r s res s') : GoneN s s' := by
  unfold Wakes at h
  split at h
  · exact h.elim
  · split at h
    · obtain ⟨e, z, hr, _, _, rfl⟩ := h
      exact ((GoneN.same rfl).trans (runs_nb hr)).trans (GoneN.same rfl)
    · rw [h.2]; exact .refl
    · rw [h.2]; exact GoneN.same rfl
  · obtain ⟨e, z, hr, _, _, rfl⟩ := h
    exact ((GoneN.same rfl).trans (runs_nb hr)).trans (GoneN.same rfl)
  · rw [h.2]; exact .refl
  · rw [h.2]; exact .refl
theorem wp_nb {α : Type} (M : Model) (Γ : Ctx) (z : Shared) (t : Sem α) : ∀ (Q : α → Pos → Shared → Prop) (E : Value → Pos → Shared → Prop) (p : Pos) (s : Shared), GoneN z s → Sem.wp M Γ t Q E p s →
    Sem.wp M Γ t (fun a q y => GoneN z y ∧ Q a q y) (fun a q y => GoneN z y ∧ E a q y) p s := by
  induction t with
  | pure a => intro Q E p s n h; exact ⟨n, h⟩
  | raise e => intro Q E p s n h; exact ⟨n, h⟩
  | unsupported _ => intro Q E p s _ h; exact h.elim
  | finish _ => intro Q E p s _ h; exact h.elim
  | rule _ k ih => intro Q E p s n h; exact ih () Q E p s n h
  | «at» q k ih => intro Q E p s n h; exact ih () Q E q s n h
  | load a _ k ih => intro Q E p s n h; obtain ⟨o, ho, h⟩ := h; exact ⟨o, ho, ih o Q E p s n h⟩
  | update a _ f k ih => intro Q E p s n h; exact ⟨h.1, ih () Q E p _ (n.trans (GoneN.upd h.1 rfl)) h.2⟩
  | loadIfAlive a k ih => intro Q E p s n h; exact ih _ Q E p s n h
  | point _ k ih => intro Q E p s n h; exact ih () Q E p s n h
  | register _ _ => intro Q E p s _ h; exact h.elim
  | alloc o k ih => intro Q E p s n h; exact ih _ Q E p _ (n.trans (GoneN.push rfl)) h
  | fresh k ih => intro Q E p s n h; exact ih _ Q E p _ (n.trans (GoneN.same rfl)) h
  | ask k ih => intro Q E p s n h; exact ih _ Q E p s n h
  | choose src m k ih => intro Q E p s n h; exact ⟨h.1, ih _ Q E p _ (n.trans (GoneN.same rfl)) h.2⟩
  | os q _ k ih => intro Q E p s n h; exact ih _ Q E p _ (n.trans (GoneN.same rfl)) h
  | call c hd _ _ k ih => intro Q E p s n h; obtain ⟨r, y, hr, h⟩ := h; exact ⟨r, y, hr, ih r Q E p y (n.trans (runs_nb hr)) h⟩
  | handled own k ih => intro Q E p s n h; exact ih _ Q E p s n h
  | genState g k ih => intro Q E p s n h; obtain ⟨st, hs, h⟩ := h; exact ⟨st, hs, ih _ Q E p s n h⟩
  | newGen c k ih => intro Q E p s n h; exact ih _ Q E p _ (n.trans (GoneN.same rfl)) h
  | resume g r _ k ih => intro Q E p s n h; obtain ⟨res, y, hw, h⟩ := h; exact ⟨res, y, hw, ih res Q E p y (n.trans (wakes_nb hw)) h⟩
  | yield _ _ _ _ => intro Q E p s _ h; exact h.elim
  | stack k ih => intro Q E p s n h; exact ih _ Q E p s n h
  | fork _ _ => intro Q E p s _ h; exact h.elim
  | thread k ih => intro Q E p s n h; exact ih _ Q E p s n h
  | await _ _ _ _ _ => intro Q E p s _ h; exact h.elim
theorem wpAny_nb {α : Type} {M : Model} {A : Around} {s : Shared} {t : Sem α} {Q : α → Shared → Prop} {E : Value → Shared → Prop} (h : wpAny M A t Q E s) : wpAny M A t (fun a y => GoneN s y ∧ Q a y) E s :=
  wpAny_mono (fun Γ p w => wp_nb M Γ s t _ _ p s .refl (h Γ p w) : wpAny M A t (fun a y => GoneN s y ∧ Q a y) (fun a y => GoneN s y ∧ E a y) s) (fun _ _ x => x) fun _ _ x => x.2
def cutH (n : Nat) (h : Heap) : Heap := { h with objs := (h.objs.toList.take n).toArray }
def cutS (n : Nat) (s : Shared) : Shared := { s with heap := cutH n s.heap }
theorem cut_get {n : Nat} {h : Heap} {a : Addr} : (cutH n h).get? a = if a < n then h.get? a else none := by
  have e : (cutH n h).objs[a]? = if a < n then h.objs[a]? else none := by
    show (h.objs.toList.take n).toArray[a]? = _
    rw [List.getElem?_toArray, List.getElem?_take, Array.getElem?_toList]
  unfold Heap.get?
  rw [e]
  by_cases hn : a < n
  · rw [if_pos hn, if_pos hn]
  · rw [if_neg hn, if_neg hn]
theorem cut_some {n : Nat} {h : Heap} {a : Addr} {o : Obj} (e : (cutH n h).get? a = some o) : a < n ∧ h.get? a = some o := by
  rw [cut_get] at e
  split at e
  · rename_i z; exact ⟨z, e⟩
  · cases e
theorem cut_of {n : Nat} {h : Heap} {a : Addr} {o : Obj} (hn : a < n) (e : h.get? a = some o) : (cutH n h).get? a = some o := by
  rw [cut_get, if_pos hn]; exact e
theorem cut_size {n : Nat} {h : Heap} (hn : n ≤ h.objs.size) : (cutH n h).objs.size = n := by
  show (h.objs.toList.take n).toArray.size = n
  rw [List.size_toArray, List.length_take, Array.length_toList]
  omega
structure GCt where
  P : Program
  w : World
  K : PySem.W.Frag
  mg : Str → Option Value
  base : Heap
  cm : CM
  N : List Str
  qual : Str
  scope : Scope
  f : Addr
  cd : Value
  outer : List Env
  n0 : Nat
  os : OsState
  k : Nat
  pn : List (Addr × Obj)
/-- a wake -/
structure GB where
  A : Around
  s : Shared
  S : Hp
  H : Hp
  U : List Nat
abbrev GCt.X (C : GCt) (b : GB) : Cx := gcxOf C.P C.w C.K C.mg C.base C.N C.qual C.scope C.f C.cd b.A C.outer (cutS C.n0 b.s) b.H noX C.pn
abbrev GCt.env (C : GCt) : Env := envOfC C.qual C.scope C.n0 C.f C.cd
abbrev GCt.cf (C : GCt) : Cf := cfE C.K C.cm false noX
structure GCt.Ok (C : GCt) (b : GB) : Prop where
  room : Room C.k (b.A.deeper C.env)
  fr : b.A.frames = some C.outer
  sz : C.n0 ≤ b.s.heap.objs.size
  os : b.s.os = C.os
theorem GCt.Ok.env {C : GCt} {b : GB} (h : C.Ok b) : (C.X b).env = C.env := by
  show envOfC C.qual C.scope (cutH C.n0 b.s.heap).objs.size C.f C.cd = _
  rw [cut_size h.sz]
theorem GCt.Ok.A {C : GCt} {b : GB} (h : C.Ok b) : (C.X b).A = b.A.deeper C.env := by
  show b.A.deeper (envOfC C.qual C.scope (cutH C.n0 b.s.heap).objs.size C.f C.cd) = _
  rw [cut_size h.sz]
/-- the entries of inner generators -/
def GlOk (b : GB) (gl : List (Nat × GenState)) (s : Shared) : Prop := b.s.gens.size ≤ s.gens.size ∧ ∀ q ∈ gl, s.gens[q.1]? = some q.2 ∧ isSus q.2 = true ∧ ngG q.2 ∧ (q.1 ∈ b.U ∨ b.s.gens.size ≤ q.1)
/-- the consumer's state as the generator is woken: what is pinned and what stands in the table is as it was -/
structure Wk (C : GCt) (b : GB) (pg : List (Addr × Obj)) (gl : List (Nat × GenState)) (S1 : Hp) : Prop where
  ok : C.Ok b
  e0 : Env0 C.P C.w C.K C.mg C.base b.A C.outer b.s b.H
  s : Ex S1 b.S
  h : Ex b.S b.H
  pin : ∀ q ∈ pg, b.s.heap.get? q.1 = some q.2 ∧ b.H q.1 = none
  gl : ∀ q ∈ gl, b.s.gens[q.1]? = some q.2 ∧ q.1 ∈ b.U
/-- what holds behind a stretch -/
structure Aft (C : GCt) (b : GB) (S1 H1 : Hp) (z : Shared) : Prop where
  fwd : Fwd b.S b.H S1 H1
  un : Un (frs C.outer) [] b.H H1 (cutH C.n0 b.s.heap) z.heap
  hok : HOk C.P C.w H1 z.heap
  os : z.os = C.os
  bare : AllBare z.gens
  gsz : b.s.gens.size ≤ z.gens.size
  pn : ∀ q ∈ C.pn, z.heap.get? q.1 = some q.2
/-- all that is still to be handed out; the end of a stretch -/
def Std (C : GCt) : List D → GB → End → Shared → Prop
  | [] => fun b e z => match e with
    | .ret r => r = .ok (.ret .none) ∧ ∃ S1 H1, Aft C b S1 H1 z
    | .susp _ _ _ _ _ _ _ => False
  | d :: ds => fun b e z => match e with
    | .ret _ => False
    | .susp v gd l k c p fs => (End.susp v gd l k c p fs).quiet = true ∧ ngF fs ∧ ∃ x S1 H1 pg gl, RelV x v ∧ Rp C.K C.cm S1 x d ∧ Aft C b S1 H1 z ∧
        (∀ q ∈ pg, z.heap.get? q.1 = some q.2 ∧ H1 q.1 = none ∧ C.n0 ≤ q.1 ∧ ∀ u, q.2.data ≠ .cell u) ∧ (∀ q ∈ C.pn, q ∈ pg) ∧ GlOk b gl z ∧
        ∀ b', Wk C b' pg gl S1 → GRun (model C.P C.w) b'.A (Std C ds b') c (k (.send .none)) fs b'.s
/-- amid a stretch -/
def GSt (C : GCt) (Sf : Hp) (b : GB) (ip : List (Addr × Obj)) (gl : List (Nat × GenState)) (G : List Ow) (r : Rho) (s : Shared) : Prop :=
  ∃ σ S H, Inv (C.X b) ip σ H s ∧ EnvOk C.cf b.S b.H G S H σ r ∧ GlOk b gl s ∧ (∀ q ∈ ip, C.n0 ≤ q.1) ∧ GoneN b.s s ∧ Ex Sf S
/-- a statement's end -/
def GOut (C : GCt) (Sf : Hp) (b : GB) (ip : List (Addr × Obj)) (gl : List (Nat × GenState)) (L G' : List Ow) (o : SR) (fl : Flow) (s : Shared) : Prop :=
  match o, fl with
  | .nx r, .next => GSt C Sf b ip gl G' r s
  | .bk r, .brk => GSt C Sf b ip gl L r s
  | .ct r, .cont => GSt C Sf b ip gl L r s
  | .rt d, .ret u => ∃ v σ S H, RelV v u ∧ Inv (C.X b) ip σ H s ∧ Fwd b.S b.H S H ∧ Rp C.K C.cm S v d ∧ b.s.gens.size ≤ s.gens.size
  | _, _ => False
def okO : SR → Prop
  | .er _ _ _ _ => False
  | .bad => False
  | _ => True
def GKon (C : GCt) (Sf : Hp) (ip : List (Addr × Obj)) (gl : List (Nat × GenState)) (L G' : List Ow) (o : SR) (ds : List D) (c : Code) (fs : List Frame) (K : Flow → Sem PySem.Fin) : Prop :=
  ∀ b s fl, C.Ok b → GOut C Sf b ip gl L G' o fl s → GRun (model C.P C.w) b.A (Std C ds b) c (K fl) fs s
/-- where the code stands -/
structure GPos (C : GCt) (c : Code) (fs : List Frame) (gd : Bool → Bool) : Prop where
  split : splitAtGen fs = none
  over : ∀ A : Around, A.over c fs = A.deeper C.env
  gd : gd false = false
  guard : fs.any Frame.guarded = false
/-- a statement, several, by data: what it hands out, how it ends -/
def GStm (C : GCt) (L G G' : List Ow) (st : Stmt) (F : Rho → List D × SR) : Prop :=
  ∀ Sf ip gl b s r ys o ds c fs K J gd lv, C.Ok b → GPos C c fs gd → F r = (ys, o) → okO o → GSt C Sf b ip gl G r s → GKon C Sf ip gl L G' o ds c fs K → GRun (model C.P C.w) b.A (Std C (ys ++ ds) b) c ((exec st C.env).wrap K J gd lv) fs s
def GStms (C : GCt) (L G G' : List Ow) (st : List Stmt) (F : Rho → List D × SR) : Prop :=
  ∀ Sf ip gl b s r ys o ds c fs K J gd lv, C.Ok b → GPos C c fs gd → F r = (ys, o) → okO o → GSt C Sf b ip gl G r s → GKon C Sf ip gl L G' o ds c fs K → GRun (model C.P C.w) b.A (Std C (ys ++ ds) b) c ((execs st C.env).wrap K J gd lv) fs s
section
variable {C : GCt} {L G G' G'' : List Ow} {b : GB} {c : Code} {fs : List Frame} {gd : Bool → Bool}
/-- an exception: there is none -/
theorem gx {Φ : End → Shared → Prop} {x : Value} {z s : Shared} {t : Sem PySem.Fin} (ok : C.Ok b) (pos : GPos C c fs gd) (h : (C.X b).xe x z) : GRun (model C.P C.w) b.A Φ c t fs s := by
  refine gr_false (m := leaving (C.X b).env x) (z := z) ?_
  rw [pos.over, ← ok.A]
  refine wpAny_mono (show wpAny (model C.P C.w) (C.X b).A (leaving (C.X b).env x) (fun _ y => CX C.P C.w C.outer b.H (cutS C.n0 b.s) noX x y ∧ ∀ p ∈ C.pn, y.heap.get? p.1 = some p.2) (fun _ _ => False) z from h) (fun _ y q => ?_) fun _ _ q => q
  obtain ⟨⟨_, _, _, _, _, _, _, _, _, _, _, _, q⟩, _⟩ := q
  exact q
theorem _root_.L2.Inv.gens {X : Cx} {pins : List (Addr × Obj)} {σ : L2.St} {H : Hp} {s : Shared} {a : Array GenState} (I : Inv X pins σ H s) (h : AllBare a) : Inv X pins σ H { s with gens := a } :=
  ⟨I.ok, I.os, h, I.base, I.loc, I.cell, I.free, I.freeC, I.pin, I.hok, I.len⟩
theorem _root_.L2.Inv.deadG {X : Cx} {pins : List (Addr × Obj)} {σ : L2.St} {H : Hp} {s : Shared} (I : Inv X pins σ H s) (U : Nat → Prop) : Inv X pins σ H (dead U s) := I.gens (dead_bare I.bare)
theorem _root_.L2.Inv.restG {X : Cx} {pins : List (Addr × Obj)} {σ : L2.St} {H : Hp} {s s2 : Shared} {U : Nat → Prop} (I : Inv X pins σ H s2) (d : DeadAt (sleeps U s.gens) s2) (h : AllBare s.gens) : Inv X pins σ H (rest (sleeps U s.gens) s2) := I.gens (back_bare d h I.bare)
/-- a piece of the context's own: the sleeping ones stay -/
theorem piece {α : Type} {X : Cx} {M : Model} {m : Sem α} {s : Shared} {Q : α → Shared → Prop} {E : Value → Shared → Prop} (hb : AllBare s.gens) (h : wpAny M X.A m Q E (dead (fun _ => False) s)) :
    wpAny M X.A m (fun a s' => ∃ s2, s' = rest (sleeps (fun _ => False) s.gens) s2 ∧ DeadAt (sleeps (fun _ => False) s.gens) s2 ∧ Q a s2 ∧ KeptG (fun _ => False) s s' ∧ s.gens.size ≤ s'.gens.size ∧ GoneN s s')
      (fun x s' => ∃ s2, s' = rest (sleeps (fun _ => False) s.gens) s2 ∧ DeadAt (sleeps (fun _ => False) s.gens) s2 ∧ ngs s2.gens ∧ E x s2) s := by
  have hsz : (dead (fun _ => False) s).gens.size = s.gens.size := by
    show (s.gens.mapIdx _).size = _
    rw [Array.size_mapIdx]
  have h1 : wpAny M X.A m (fun a z => (s.gens.size ≤ z.gens.size ∧ GoneN s z) ∧ Q a z) E (dead (fun _ => False) s) := by
    have z := wpAny_nb h
    refine wpAny_gsz (n := s.gens.size) (by rw [hsz]; exact Nat.le_refl _) (wpAny_mono z (fun a y q k => ⟨⟨k, ?_⟩, q.2⟩) fun _ _ q _ => q)
    exact (GoneN.same rfl).trans q.1
  refine wpAny_kept (fun _ => False) (fun _ _ z => z.elim) h1 (fun a s2 d n q k => ?_) fun x s2 d n q k => ⟨s2, rfl, d, n, q⟩
  exact ⟨s2, rfl, d, q.2, k, by rw [rest_size]; exact q.1.1, q.1.2.trans (GoneN.same rfl)⟩
theorem GlOk.kept {gl : List (Nat × GenState)} {s s' : Shared} (h : GlOk b gl s) (k : KeptG (fun _ => False) s s') (hs : s.gens.size ≤ s'.gens.size) : GlOk b gl s' :=
  ⟨Nat.le_trans h.1 hs, fun q hq => let ⟨h1, h2, h3, h4⟩ := h.2 q hq; ⟨k q.1 q.2 (fun z => z) h1 h2, h2, h3, h4⟩⟩
theorem gs_leaf {st : Stmt} {F : Rho → SR} (h : ∀ b, C.Ok b → PS (C.X b) st (sD C.cf L G G' F)) : GStm C L G G' st (fun r => ([], F r)) := by
  intro Sf ip gl b s r ys o ds c fs K J gd lv ok pos hF oo hs kon
  cases hF
  obtain ⟨σ, S, H, I, e, g, hip, nb, hf⟩ := hs
  refine gr_wrap ?_
  rw [pos.over, ← ok.A, ← ok.env]
  let D : Ends := {
    nx := fun σ' H' => ∃ r' S', F r = .nx r' ∧ EnvOk C.cf S b.H G' S' H' σ' r'
    rt := fun v H' => ∃ d S', F r = .rt d ∧ Fwd S b.H S' H' ∧ Rp C.K C.cm S' v d
    bk := fun σ' H' => ∃ r' S', F r = .bk r' ∧ EnvOk C.cf S b.H L S' H' σ' r'
    ct := fun σ' H' => ∃ r' S', F r = .ct r' ∧ EnvOk C.cf S b.H L S' H' σ' r' }
  have hD : sD C.cf L G G' F D σ H := by
    refine ⟨S, b.H, S, r, e.rebase, ?_⟩
    cases q : F r with
    | nx r' => exact fun σ' S' H' e' => ⟨r', S', q, e'⟩
    | rt d => exact fun v S' H' f hv => ⟨d, S', q, f, hv⟩
    | bk r' => exact fun σ' S' H' e' => ⟨r', S', q, e'⟩
    | ct r' => exact fun σ' S' H' e' => ⟨r', S', q, e'⟩
    | er r' n ns vs => rw [q] at oo; exact oo.elim
    | bad => rw [q] at oo; exact oo.elim
  refine wpAny_mono (piece I.bare ((h b ok).run ip _ σ H D (I.deadG _) hD)) (fun fl s' q => ?_) fun x s' q => ?_
  · obtain ⟨s2, e2, d, q, k, hsz, nb2⟩ := q
    have g' := g.kept k hsz
    refine kon b s' fl ok ?_
    cases fl with
    | next =>
      obtain ⟨σ', H', I', r', S', q, e'⟩ := q
      rw [q]
      exact ⟨σ', S', H', by rw [e2]; exact I'.restG d I.bare, e'.unbase e.fwd, g', hip, nb.trans nb2, hf.trans e'.fwd.s⟩
    | brk =>
      obtain ⟨σ', H', I', r', S', q, e'⟩ := q
      rw [q]
      exact ⟨σ', S', H', by rw [e2]; exact I'.restG d I.bare, e'.unbase e.fwd, g', hip, nb.trans nb2, hf.trans e'.fwd.s⟩
    | cont =>
      obtain ⟨σ', H', I', r', S', q, e'⟩ := q
      rw [q]
      exact ⟨σ', S', H', by rw [e2]; exact I'.restG d I.bare, e'.unbase e.fwd, g', hip, nb.trans nb2, hf.trans e'.fwd.s⟩
    | ret u =>
      obtain ⟨v, σ', H', I', rv, dd, S', q, f, hv⟩ := q
      rw [q]
      exact ⟨v, σ', S', H', rv, by rw [e2]; exact I'.restG d I.bare, e.fwd.unbase f, hv, g'.1⟩
  · obtain ⟨s2, _, _, _, q⟩ := q
    exact gx ok pos q
theorem gss_nil : GStms C L G G [] (fun r => ([], .nx r)) := by
  intro Sf ip gl b s r ys o ds c fs K J gd lv ok pos hF oo hs kon
  cases hF
  exact gr_nil (kon b s .next ok hs)
def seqG (F K : Rho → List D × SR) : Rho → List D × SR := fun r => match F r with
  | (ys, .nx r') => (ys ++ (K r').1, (K r').2)
  | x => x
theorem gss_cons {st : Stmt} {more : List Stmt} {F K : Rho → List D × SR} (h1 : GStm C L G G' st F) (h2 : GStms C L G' G'' more K) : GStms C L G G'' (st :: more) (seqG F K) := by
  intro Sf ip gl b s r ys o ds c fs K' J gd lv ok pos hF oo hs kon
  refine gr_cons ?_
  unfold seqG at hF
  cases q : F r with
  | mk ys1 o1 =>
    rw [q] at hF
    cases o1 with
    | nx r' =>
      dsimp only at hF
      obtain ⟨e1, e2⟩ := Prod.mk.inj hF
      rw [← e1, List.append_assoc]
      refine h1 Sf ip gl b s r ys1 (.nx r') _ c fs _ J gd lv ok pos q trivial hs fun b' s' fl ok' ho => ?_
      cases fl with
      | next => exact h2 Sf ip gl b' s' r' _ _ ds c fs K' J gd lv ok' pos rfl (by rw [e2]; exact oo) ho (by rw [e2]; exact kon)
      | _ => exact ho.elim
    | rt d =>
      cases hF
      refine h1 Sf ip gl b s r _ _ ds c fs _ J gd lv ok pos q trivial hs fun b' s' fl ok' ho => ?_
      cases fl with
      | ret u => exact kon b' s' _ ok' ho
      | _ => exact ho.elim
    | bk r' =>
      cases hF
      refine h1 Sf ip gl b s r _ _ ds c fs _ J gd lv ok pos q trivial hs fun b' s' fl ok' ho => ?_
      cases fl with
      | brk => exact kon b' s' _ ok' ho
      | _ => exact ho.elim
    | ct r' =>
      cases hF
      refine h1 Sf ip gl b s r _ _ ds c fs _ J gd lv ok pos q trivial hs fun b' s' fl ok' ho => ?_
      cases fl with
      | cont => exact kon b' s' _ ok' ho
      | _ => exact ho.elim
    | er r' n ns vs => cases hF; exact oo.elim
    | bad => cases hF; exact oo.elim
def liftG {α : Type} (x : Res α) (k : α → List D × SR) : List D × SR := match x with
  | .ok a => k a
  | _ => ([], .bad)
/-- a test in a generator -/
theorem test_run {cnd : Expr} {t : Rho → Res Bool} {Sf : Hp} {ip : List (Addr × Obj)} {gl : List (Nat × GenState)} {s : Shared} {r : Rho} {a : Bool} (h : ∀ b, C.Ok b → PT (C.X b) cnd (tT C.cf G t)) (ok : C.Ok b) (ht : t r = .ok a) (hs : GSt C Sf b ip gl G r s) :
    wpAny (model C.P C.w) (b.A.deeper C.env) (isTrue cnd C.env (eval cnd C.env)) (fun x s' => x = a ∧ GSt C Sf b ip gl G r s') (fun x _ => ∃ z, (C.X b).xe x z) s := by
  obtain ⟨σ, S, H, I, e, g, hip, nb, hf⟩ := hs
  rw [← ok.A, ← ok.env]
  refine wpAny_mono (piece I.bare ((h b ok).run ip _ σ H (fun x H' => x = a ∧ ∃ S', Fwd S H S' H') (I.deadG _) ⟨b.S, b.H, S, r, e, ?_⟩)) (fun x s' q => ?_) fun x s' q => ?_
  · rw [ht]
    exact fun S' H' f y hy => ⟨hy, S', f⟩
  · obtain ⟨s2, e2, d, ⟨H', I', hx, S', f⟩, k, hsz, nb2⟩ := q
    exact ⟨hx, σ, S', H', by rw [e2]; exact I'.restG d I.bare, e.go f, g.kept k hsz, hip, nb.trans nb2, hf.trans f.s⟩
  · obtain ⟨s2, _, _, _, q⟩ := q
    exact ⟨s2, q⟩
def whileG (t : Rho → Res Bool) (F : Rho → List D × SR) : Nat → Rho → List D × SR
  | 0, _ => ([], .bad)
  | n + 1, r => liftG (t r) fun a => if a = true then (match F r with
    | (ys, .nx r') => (ys ++ (whileG t F n r').1, (whileG t F n r').2)
    | (ys, .ct r') => (ys ++ (whileG t F n r').1, (whileG t F n r').2)
    | (ys, .bk r') => (ys, .nx r')
    | x => x) else ([], .nx r)
theorem gpos_loop {d : Code} {k : Result → Sem PySem.Fin} {l kp : List Value} {p : Pos} (pos : GPos C c fs gd) (hw : d.weight = 0) (hu : d.cUnits = 0) : GPos C d (.ret k none false l c p kp :: fs) id where
  split := by
    show (splitAtGen fs).map _ = none
    rw [pos.split]
    rfl
  over := fun A => (over_loop hw hu).trans (pos.over A)
  gd := rfl
  guard := by
    show (false || fs.any Frame.guarded) = false
    rw [pos.guard]
    rfl
theorem gs_while {cnd : Expr} {body : List Stmt} {pos : Pos} {t : Rho → Res Bool} {F : Rho → List D × SR} (n : Nat) (h : ∀ b, C.Ok b → PT (C.X b) cnd (tT C.cf G t)) (h1 : GStms C G G G body F) : GStm C L G G (.While cnd body [] pos) (whileG t F n) := by
  intro Sf ip gl b s r ys o ds c fs K' J gd lv ok pos hF oo hs kon
  refine gr_while (Xe := fun _ _ => False) (fun _ _ _ _ _ q => q.elim) pos.gd fun k p hk => ?_
  have pl : GPos C (.whileLoop cnd body [] C.env) (.ret k none false (lv []) c p [] :: fs) id := gpos_loop pos rfl rfl
  have loop : ∀ (n : Nat) (b : GB) (s : Shared) (r : Rho) (ys : List D), C.Ok b → whileG t F n r = (ys, o) → GSt C Sf b ip gl G r s → GRun (model C.P C.w) b.A (Std C (ys ++ ds) b) (.whileLoop cnd body [] C.env) ((model C.P C.w).den (.whileLoop cnd body [] C.env)) (.ret k none false (lv []) c p [] :: fs) s := by
    intro n
    induction n with
    | zero => intro b s r ys ok hF hs; cases hF; exact oo.elim
    | succ n ih =>
      intro b s r ys ok hF hs
      unfold whileG liftG at hF
      cases ht : t r with
      | err n ns vs => rw [ht] at hF; cases hF; exact oo.elim
      | bad => rw [ht] at hF; cases hF; exact oo.elim
      | ok a =>
        rw [ht] at hF
        refine gr_whileLoop (Xe := fun x _ => ∃ z, (C.X b).xe x z) (fun x z t ⟨y, q⟩ => gx ok pl q) ?_
        rw [pl.over]
        refine wpAny_mono (test_run h ok ht hs) (fun x s' ⟨hx, q⟩ => ?_) fun _ _ q => q
        subst hx
        cases x with
        | false =>
          cases hF
          rw [if_neg Bool.false_ne_true]
          refine gr_leaf (.ok .next) ?_
          rw [hk]
          exact kon b s' .next ok q
        | true =>
          rw [if_pos rfl]
          intro J'
          dsimp only at hF
          rw [if_pos rfl] at hF
          cases hB : F r with
          | mk y1 o1 =>
            rw [hB] at hF
            cases o1 with
            | nx r' =>
              obtain ⟨e1, e2⟩ := Prod.mk.inj hF
              rw [← e1, List.append_assoc]
              refine h1 Sf ip gl b s' r y1 _ _ _ _ _ J' id id ok pl hB trivial q fun b2 s2 fl ok2 ho => ?_
              cases fl with
              | next => exact gr_again rfl (ih b2 s2 r' _ ok2 (by rw [← e2]) ho)
              | _ => exact ho.elim
            | ct r' =>
              obtain ⟨e1, e2⟩ := Prod.mk.inj hF
              rw [← e1, List.append_assoc]
              refine h1 Sf ip gl b s' r y1 _ _ _ _ _ J' id id ok pl hB trivial q fun b2 s2 fl ok2 ho => ?_
              cases fl with
              | cont => exact gr_again rfl (ih b2 s2 r' _ ok2 (by rw [← e2]) ho)
              | _ => exact ho.elim
            | bk r' =>
              cases hF
              refine h1 Sf ip gl b s' r _ _ _ _ _ _ J' id id ok pl hB trivial q fun b2 s2 fl ok2 ho => ?_
              cases fl with
              | brk =>
                refine gr_leaf (.ok .next) ?_
                rw [hk]
                exact kon b2 s2 .next ok2 ho
              | _ => exact ho.elim
            | rt d =>
              cases hF
              refine h1 Sf ip gl b s' r _ _ _ _ _ _ J' id id ok pl hB trivial q fun b2 s2 fl ok2 ho => ?_
              cases fl with
              | ret u =>
                refine gr_leaf (.ok (.ret u)) ?_
                rw [hk]
                exact kon b2 s2 (.ret u) ok2 ho
              | _ => exact ho.elim
            | er r' n ns vs => cases hF; exact oo.elim
            | bad => cases hF; exact oo.elim
  exact loop n b s r ys ok hF hs
end
end Dx
end S_DxBW
section S_DxBX
set_option Elab.async false
set_option linter.all false
set_option maxRecDepth 100000
set_option maxHeartbeats 2000000
namespace Dx
open PySem L2
open PyProof.Rows hiding St
open GenW
/-- no names of this def stand in cells -/
def NoCell (sc : Scope) : Prop := ∀ y ∈ sc.names, y.2 ≠ .cell ∧ y.2 ≠ .free
theorem nocells : ∀ (n : Nat) (l : List (Str × NameKind)), (∀ y ∈ l, y.2 ≠ .cell ∧ y.2 ≠ .free) → cellsFrom n l [] = []
  | _, [], _ => rfl
  | n, (x, k) :: l, h => by
    have hk := (h (x, k) List.mem_cons_self).1
    unfold cellsFrom
    cases k with
    | cell => exact absurd rfl hk
    | _ => exact nocells n l fun y hy => h y (List.mem_cons_of_mem _ hy)
theorem NoCell.not {sc : Scope} (h : NoCell sc) {x : Str} (q : sc.names.lookup x = some .cell ∨ sc.names.lookup x = some .free) : False := by
  rcases q with q | q
  · exact (h _ (PySem.mem_of_lookup q)).1 rfl
  · exact (h _ (PySem.mem_of_lookup q)).2 rfl
/-- without the objects at O; with them put back -/
noncomputable def hide (O : Addr → Prop) (H : Hp) : Hp := fun a => @ite _ (O a) (Classical.propDecidable _) none (H a)
noncomputable def putB (O : Addr → Prop) (H1 H : Hp) : Hp := fun a => @ite _ (O a) (Classical.propDecidable _) (H1 a) (H a)
section
variable {O : Addr → Prop} {H H1 : Hp} {a : Addr}
theorem hide_in (h : O a) : hide O H a = none := by unfold hide; exact if_pos h
theorem hide_out (h : ¬ O a) : hide O H a = H a := by unfold hide; exact if_neg h
theorem hide_some {o : HO} (h : hide O H a = some o) : ¬ O a ∧ H a = some o := by
  by_cases z : O a
  · rw [hide_in z] at h; cases h
  · exact ⟨z, by rw [hide_out z] at h; exact h⟩
theorem hide_none (h : H a = none) : hide O H a = none := by
  by_cases z : O a
  · exact hide_in z
  · rw [hide_out z]; exact h
theorem put_in (h : O a) : putB O H1 H a = H1 a := by unfold putB; exact if_pos h
theorem put_out (h : ¬ O a) : putB O H1 H a = H a := by unfold putB; exact if_neg h
end
theorem funFrames_cut {h h' base : Heap} {n : Nat} : ∀ {l : List Env}, (cutH n h).FunFrames base l → h'.FunFrames base l → (cutH n h').FunFrames base l
  | [], _, _ => trivial
  | env :: l, ⟨_, ⟨L, o, hf, hn, ho, hd⟩, r⟩, ⟨k', ⟨L', o', hf', hn', ho', hd'⟩, r'⟩ => by
    have : L' = L := by rw [hf] at hf'; exact (Option.some.inj hf').symm
    subst this
    exact ⟨k', ⟨L', o', hf', hn', cut_of (cut_some ho).1 ho', hd'⟩, funFrames_cut r r'⟩
/-- a list or a dict -/
def isLK : HO → Prop
  | .lst _ => True
  | .dK _ => True
  | _ => False
theorem isLK.pl {ho : HO} (l : isLK ho) : Pl ho := by
  cases ho with
  | lst xs => exact .lst
  | dK kvs => exact .dK
  | _ => exact l.elim
theorem isLK.at {P : Program} {w : World} {H H' : Hp} {h h' : Heap} {a : Addr} {ho : HO} (l : isLK ho) (x : ObjOk P w H h a ho) (k : ∀ o, h.get? a = some o → h'.get? a = some o) : ObjOk P w H' h' a ho := by
  cases ho with
  | lst xs => obtain ⟨z, its, n, r, e⟩ := x; exact ⟨z, its, n, r, k _ e⟩
  | dK kvs => obtain ⟨z, y, vs, r, ob, es, ep, e, c⟩ := x; exact ⟨z, y, vs, r, ob, es, ep, k _ e, c⟩
  | _ => exact l.elim
theorem isLK.obj {P : Program} {w : World} {H : Hp} {h : Heap} {a : Addr} {ho : HO} (l : isLK ho) (x : ObjOk P w H h a ho) : ∃ o, h.get? a = some o ∧ ∀ v, o.data ≠ .cell v := by
  cases ho with
  | lst xs => obtain ⟨z, its, n, r, e⟩ := x; exact ⟨_, e, fun v q => by cases q⟩
  | dK kvs => obtain ⟨z, y, vs, r, ob, es, ep, e, _, d, _⟩ := x; exact ⟨_, e, fun v q => by rw [d] at q; cases q⟩
  | _ => exact l.elim
section
variable {C : GCt} {L G G' : List Ow} {b b' : GB}
theorem GCt.Ok.loc (h : C.Ok b) : (C.X b).env.locals = C.n0 := cut_size h.sz
/-- the context of a later wake: what was the generator's own stands as it stood -/
theorem inv_wake {ip : List (Addr × Obj)} {σ : L2.St} {H1 : Hp} {z : Shared} {O : Addr → Prop} (hsc : NoCell C.scope) (ok : C.Ok b) (ok' : C.Ok b') (I : Inv (C.X b) ip σ H1 z) (e0 : Env0 C.P C.w C.K C.mg C.base b'.A C.outer b'.s b'.H)
    (pins : ∀ q ∈ C.pn ++ ip, b'.s.heap.get? q.1 = some q.2 ∧ b'.H q.1 = none) (ns : ∀ o, z.heap.get? C.n0 = some o → b'.s.heap.get? C.n0 = some o ∧ b'.H C.n0 = none)
    (own : ∀ p, O p → C.n0 ≤ p ∧ b'.H p = none ∧ (∃ ho, H1 p = some ho ∧ isLK ho) ∧ ∀ o, z.heap.get? p = some o → b'.s.heap.get? p = some o) : Inv (C.X b') ip σ (putB O H1 b'.H) b'.s := by
  have hL := ok.loc
  have hL' := ok'.loc
  have cs : cutH C.n0 b.s.heap = (cutS C.n0 b.s).heap := rfl
  have bsz : C.base.objs.size ≤ C.n0 := by
    have q : C.base.objs.size ≤ (cutH C.n0 b.s.heap).objs.size := I.ok.bsz
    rw [cut_size ok.sz] at q
    exact q
  obtain ⟨m, hn, hv⟩ := I.loc
  rw [hL] at hn
  have hlo := I.free
  rw [hL] at hlo
  have noO : ∀ a, H1 a = none → ¬ O a := fun a h q => by
    obtain ⟨_, _, ⟨ho, h2, _⟩, _⟩ := own a q
    rw [h] at h2; cases h2
  have hns : ∃ o, z.heap.get? C.n0 = some o := by
    obtain ⟨o, es, ep, e, _⟩ := hn
    exact ⟨o, e⟩
  obtain ⟨ons, hons⟩ := hns
  have noc : ∀ (B : GB) x c, (C.X B).env.cells.lookup x = some c → False := fun B x c h => by
    have e : (C.X B).env.cells = cellsFrom ((cutH C.n0 B.s.heap).objs.size + 1) C.scope.names [] := rfl
    rw [e, nocells _ _ hsc] at h
    cases h
  refine ⟨⟨e0.mod, I.ok.kind, rfl, rfl, Nat.le_refl _, fun x y c h => (noc _ _ _ h).elim, fun x h => (hsc.not h).elim, fun x c _ h => (noc _ _ _ h).elim, fun _ => ok'.room.hd, Around.frames_deeper e0.frames, .inr ⟨rfl, rfl⟩, fun q hq => absurd (show q ∈ ([] : List Addr) from hq) (by simp), fun q o e => ?_, ?_, fun q o e hq => absurd (show q ∈ ([] : List Addr) from hq) (by simp), fun q hq => absurd (show q ∈ ([] : List Addr) from hq) (by simp), ?_, e0.frf⟩, rfl, e0.bare, ?_, ?_, fun x c h => (noc _ _ _ h).elim, ?_, fun x c h => (noc _ _ _ h).elim, fun q hq => ?_, ?_, I.len⟩
  · obtain ⟨h1, h2⟩ := e0.bs q o e
    exact ⟨cut_of (Nat.lt_of_lt_of_le (Heap.lt_size e) bsz) h1, h2⟩
  · show C.base.objs.size ≤ (cutH C.n0 b'.s.heap).objs.size
    rw [cut_size ok'.sz]
    exact bsz
  · exact funFrames_cut (h := b.s.heap) I.ok.funs e0.funs
  · refine ⟨fun q o e _ _ _ => (cut_some e).2, fun q o e _ _ _ => ⟨o.slots, (cut_some e).2⟩, fun q o e hq _ => ?_, fun q o e _ => ⟨o, (cut_some e).2⟩, fun q xs e => ?_, fun q o u e => ?_, fun q ps e => ?_⟩
    · have : ¬ O q := fun h => by
        exact absurd (cut_some e).1 (Nat.not_lt.mpr (own q h).1)
      rw [put_out this]; exact hq
    · have : ¬ O q := fun h => by
        have h2 := (own q h).2.1
        rw [show b'.H q = some (.tup xs) from e] at h2; cases h2
      rw [put_out this]; exact e
    · have : ¬ O q := fun h => by
        have h2 := (own q h).2.1
        rw [show b'.H q = some (.frz o u) from e] at h2; cases h2
      rw [put_out this]; exact e
    · have : ¬ O q := fun h => by
        have h2 := (own q h).2.1
        rw [show b'.H q = some (.tbl ps) from e] at h2; cases h2
      refine ⟨#[], ?_⟩
      rw [put_out this, show b'.H q = some (.tbl ps) from e]
      simp
  · refine ⟨m, ?_, fun i x v h1 h2 h3 => ?_⟩
    · rw [hL']
      exact hn.at fun o e => (ns o e).1
    · obtain ⟨u, r, l⟩ := hv i x v h1 h2 h3
      refine ⟨u, r, ?_⟩
      rcases l with ⟨l1, l2⟩ | ⟨_, c, l2, _⟩
      · exact .inl ⟨l1, l2⟩
      · exact (noc b _ _ l2).elim
  · show putB O H1 b'.H (C.X b').env.locals = none
    rw [hL', put_out (noO _ hlo)]
    exact (ns _ hons).2
  · obtain ⟨p1, p2, p3, p4, p5⟩ := I.pin q hq
    obtain ⟨q1, q2⟩ := pins q hq
    refine ⟨q1, ?_, ?_, p4, p5⟩
    · rw [put_out (noO _ p2)]; exact q2
    · rw [hL']
      rw [hL] at p3
      exact p3
  · intro a o e
    by_cases ha : O a
    · rw [put_in ha] at e
      obtain ⟨_, _, ⟨ho, h2, h3⟩, h4⟩ := own a ha
      rw [e] at h2
      cases h2
      exact h3.at (I.hok a o e) h4
    · rw [put_out ha] at e
      refine (e0.hok a o e).stay (fun _ _ _ q => q) (fun q h => ?_) fun q xs h => ?_
      · have : ¬ O q := fun z => by
          have h2 := (own q z).2.1
          rw [h] at h2; cases h2
        rw [put_out this]; exact h
      · have : ¬ O q := fun z => by
          have h2 := (own q z).2.1
          rw [h] at h2; cases h2
        rw [put_out this]; exact h
/-- own lists and dicts -/
def isLD : D → Bool
  | .lst _ => true
  | .dk _ _ => true
  | _ => false
def ownsOk : List Ow → Rho → Bool
  | .o :: G, some d :: r => isLD d && ownsOk G r
  | _ :: G, _ :: r => ownsOk G r
  | _, _ => true
theorem ownsOk.get : ∀ {G : List Ow} {r : Rho} {i : Nat} {d : D}, ownsOk G r = true → kd G i = .o → r[i]? = some (some d) → isLD d = true
  | [], _, i, d, _, h, _ => by
    have : kd [] i = .v := by simp [kd]
    rw [this] at h; cases h
  | _ :: _, [], i, d, _, _, h => by simp at h
  | k :: G, x :: r, 0, d, h, hk, hr => by
    have hk : k = .o := hk
    have hr : x = some d := by simpa using hr
    subst hk hr
    unfold ownsOk at h
    exact (Bool.and_eq_true_iff.mp h).1
  | k :: G, x :: r, i + 1, d, h, hk, hr => by
    have hk : kd G i = .o := by
      show G.getD i .v = .o
      have : (k :: G).getD (i + 1) .v = .o := hk
      simpa using this
    have hr : r[i]? = some (some d) := by simpa using hr
    refine ownsOk.get (i := i) (G := G) (r := r) ?_ hk hr
    cases k with
    | o =>
      cases x with
      | none => exact h
      | some y => exact (Bool.and_eq_true_iff.mp h).2
    | _ => exact h
def yieldG (G : List Ow) (f : Rho → Res D) : Rho → List D × SR := fun r => liftG (f r) fun d => if ownsOk G r = true then ([d], .nx r) else ([], .bad)
def IsOwn (G : List Ow) (σ : L2.St) (r : Rho) (p : Addr) : Prop := ∃ i d, kd G i = .o ∧ r[i]? = some (some d) ∧ σ[i]? = some (some (.ref p))
/-- the own objects as they stand -/
def ownPins (G : List Ow) (σ : L2.St) (r : Rho) (h : Heap) : List (Addr × Obj) := (List.range r.length).filterMap fun i => match kd G i, r[i]?, σ[i]? with
  | .o, some (some _), some (some (.ref p)) => (h.get? p).map fun o => (p, o)
  | _, _, _ => none
theorem ownPins_mem {σ : L2.St} {r : Rho} {h : Heap} {p : Addr} {o : Obj} (x : IsOwn G σ r p) (e : h.get? p = some o) : (p, o) ∈ ownPins G σ r h := by
  obtain ⟨i, d, h1, h2, h3⟩ := x
  refine List.mem_filterMap.mpr ⟨i, List.mem_range.mpr (List.getElem?_eq_some_iff.mp h2).1, ?_⟩
  rw [h1, h2, h3]
  dsimp only
  rw [e]
  rfl
theorem of_ownPins {σ : L2.St} {r : Rho} {h : Heap} {q : Addr × Obj} (x : q ∈ ownPins G σ r h) : IsOwn G σ r q.1 ∧ h.get? q.1 = some q.2 := by
  obtain ⟨i, _, e⟩ := List.mem_filterMap.mp x
  split at e
  · rename_i d p h1 h2 h3
    cases q2 : h.get? p with
    | none => rw [q2] at e; cases e
    | some o =>
      rw [q2] at e
      cases e
      exact ⟨⟨i, d, h1, h2, h3⟩, q2⟩
  · cases e
theorem gs_yield {e : Expr} {yp pos : Pos} {f : Rho → Res D} (hk : ∀ i, kd G i = .v ∨ kd G i = .o) (hsc : NoCell C.scope) (hpn : ∀ q ∈ C.pn, C.n0 ≤ q.1) (hco : C.scope.isCoroutine = false) (he : ∀ b, C.Ok b → PE (C.X b) e (tV C.cf G f)) (hi : interactive C.env = false := by rfl) :
    GStm C L G G (.Expr (.Yield (some e) yp) pos) (yieldG G f) := by
  intro Sf ip gl b s r ys o ds c fs K J gd lv ok pos hF oo hs kon
  unfold yieldG liftG at hF
  cases hf : f r with
  | err n ns vs => rw [hf] at hF; cases hF; exact oo.elim
  | bad => rw [hf] at hF; cases hF; exact oo.elim
  | ok d =>
    rw [hf] at hF
    dsimp only at hF
    by_cases hw : ownsOk G r = true
    case neg => rw [if_neg hw] at hF; cases hF; exact oo.elim
    rw [if_pos hw] at hF
    cases hF
    obtain ⟨σ, S, H, I, ev, g, hip, nb, hfl⟩ := hs
    refine gr_yieldS (Xe := fun x _ => ∃ z, (C.X b).xe x z) (fun x z t ⟨y, q⟩ => gx ok pos q) pos.split pos.gd ?_ hco hi
    rw [pos.over, ← ok.A, ← ok.env]
    refine wpAny_mono (piece I.bare ((he b ok).run ip _ σ H (fun v H' => ∃ S', Fwd S H S' H' ∧ Rp C.K C.cm S' v d) (I.deadG _) ⟨b.S, b.H, S, r, ev, ?_⟩)) (fun v z q => ?_) fun x z q => ?_
    · rw [hf]
      exact fun S' H' fw v hv => ⟨S', fw, hv⟩
    rotate_left
    · obtain ⟨s2, _, _, _, q⟩ := q
      exact ⟨s2, q⟩
    obtain ⟨s2, e2, dd, ⟨x, H1, I1, rv, S1, f1, hx⟩, k, hsz, nb2⟩ := q
    intro l k' p hk'
    have I' : Inv (C.X b) ip σ H1 z := by rw [e2]; exact I1.restG dd I.bare
    have e1 := ev.go f1
    have nz := nb.trans nb2
    have hL := ok.loc
    obtain ⟨m, hn, _⟩ := I'.loc
    rw [hL] at hn
    have hlo := I'.free
    rw [hL] at hlo
    obtain ⟨ons, hons, hnd⟩ : ∃ o, z.heap.get? C.n0 = some o ∧ ∀ u, o.data ≠ .cell u := by
      obtain ⟨o, es, ep, q1, q2, _⟩ := hn
      exact ⟨o, q1, fun u q => by rw [q2] at q; cases q⟩
    have own : ∀ a, IsOwn G σ r a → C.n0 ≤ a ∧ b.H a = none ∧ S1 a = none ∧ ∃ ho, H1 a = some ho ∧ isLK ho := by
      rintro a ⟨i, d', h1, h2, h3⟩
      obtain ⟨p', ho, s1, s2', s3, s4, s5⟩ := e1.own h1 h2
      rw [h3] at s1
      cases s1
      have hl : isLK ho := by
        have := ownsOk.get hw h1 h2
        cases s5 with
        | lst _ => trivial
        | dk _ _ => trivial
        | dt _ _ => cases this
        | dn _ _ _ => cases this
        | obj _ _ _ => cases this
      refine ⟨?_, s4, s3, ho, s2', hl⟩
      apply Classical.byContradiction
      intro hlt
      have hlt : a < C.n0 := Nat.lt_of_not_le hlt
      obtain ⟨o1, ho1, _⟩ := hl.obj (I'.hok a ho s2')
      cases q : b.s.heap.get? a with
      | none =>
        have := nz.2 a (Nat.lt_of_lt_of_le hlt ok.sz) q
        rw [this] at ho1; cases ho1
      | some o2 =>
        have := I'.base.free a o2 (cut_of hlt q) s4 fun z1 => absurd (show a ∈ ([] : List Addr) from z1) (by simp)
        rw [s2'] at this; cases this
    have keepO : ∀ a o, b.H a = some o → ¬ IsOwn G σ r a := fun a o h q => by
      have := (own a q).2.1
      rw [h] at this; cases this
    have aft : Aft C b S1 (hide (IsOwn G σ r) H1) z := by
      refine ⟨⟨e1.fwd.s, fun a o h => ?_, fun a o h => ?_, e1.fwd.new, e1.fwd.tb.trans (Tk.butP (O := IsOwn G σ r) (fun a h => by
          obtain ⟨_, _, _, ho, z1, z2⟩ := own a h
          exact ⟨ho, z1, z2.pl⟩) fun a u h z => by rw [hide_out h]; exact z)⟩, ⟨I'.base.keep, I'.base.slot, fun a o h1 h2 h3 => hide_none (I'.base.free a o h1 h2 h3), I'.base.there, fun a xs h => ?_, fun a o u h => ?_, fun a ps h => ?_⟩, fun a o h => ?_, I'.os.trans ok.os, I'.bare, Nat.le_trans g.1 hsz, fun q hq => (I'.pin q (List.mem_append_left _ hq)).1⟩
      · exact (e1.fwd.h a o h).at (hide_out (keepO a o h))
      · have : ¬ IsOwn G σ r a := fun q => by
          have := (own a q).2.2.1
          rw [h] at this; cases this
        exact (e1.fwd.sub a o h).at (hide_out this)
      · rw [hide_out (keepO a _ h)]; exact I'.base.tups a xs h
      · rw [hide_out (keepO a _ h)]; exact I'.base.frzs a o u h
      · rw [hide_out (keepO a _ h)]; exact I'.base.tbls a ps h
      · obtain ⟨h1, h2⟩ := hide_some h
        refine (I'.hok a o h2).stay (fun _ _ _ q => q) (fun q h3 => ?_) fun q xs h3 => ?_
        · have : ¬ IsOwn G σ r q := fun z1 => by
            obtain ⟨_, _, _, ho, z2, z3⟩ := own q z1
            rw [h3] at z2; cases z2; exact z3
          rw [hide_out this]; exact h3
        · have : ¬ IsOwn G σ r q := fun z1 => by
            obtain ⟨_, _, _, ho, z2, z3⟩ := own q z1
            rw [h3] at z2; cases z2; exact z3
          rw [hide_out this]; exact h3
    refine ⟨?_, ngF.of_split pos.split, x, S1, hide (IsOwn G σ r) H1, (C.pn ++ ip) ++ ((C.n0, ons) :: ownPins G σ r z.heap), gl, rv, hx, aft, fun q hq => ?_, fun q hq => List.mem_append_left _ (List.mem_append_left _ hq), g.kept k hsz, fun b' wk => ?_⟩
    · show (!(false || fs.any Frame.guarded)) = true
      rw [pos.guard]
      rfl
    · rcases List.mem_append.mp hq with hq | hq
      · obtain ⟨p1, p2, p3, p4, p5⟩ := I'.pin q hq
        refine ⟨p1, hide_none p2, ?_, p5⟩
        rcases List.mem_append.mp hq with hq | hq
        · exact hpn q hq
        · exact hip q hq
      · rcases List.mem_cons.mp hq with hq | hq
        · subst hq
          exact ⟨hons, hide_none hlo, Nat.le_refl _, hnd⟩
        · obtain ⟨h1, h2⟩ := of_ownPins hq
          obtain ⟨h3, _, _, ho, h4, h5⟩ := own _ h1
          refine ⟨h2, hide_in h1, h3, ?_⟩
          obtain ⟨o1, z1, z2⟩ := h5.obj (I'.hok _ ho h4)
          rw [h2] at z1
          cases z1
          exact z2
    · rw [hk']
      have wo : ∀ a o, IsOwn G σ r a → z.heap.get? a = some o → b'.s.heap.get? a = some o ∧ b'.H a = none := fun a o h1 h2 => wk.pin (a, o) (List.mem_append_right _ (List.mem_cons_of_mem _ (ownPins_mem h1 h2)))
      have wn : ∀ a, IsOwn G σ r a → b'.H a = none := fun a h1 => by
        obtain ⟨_, _, _, ho, h4, h5⟩ := own a h1
        obtain ⟨o1, z1, _⟩ := h5.obj (I'.hok _ ho h4)
        exact (wo a o1 h1 z1).2
      have wS : ∀ a, IsOwn G σ r a → b'.S a = none := fun a h1 => wk.h.nn (wn a h1)
      have atP : ∀ a o, b'.H a = some o → putB (IsOwn G σ r) H1 b'.H a = some o := fun a o h => by
        have : ¬ IsOwn G σ r a := fun z1 => by
          rw [wn a z1] at h; cases h
        rw [put_out this]; exact h
      have exP : Ex b'.H (putB (IsOwn G σ r) H1 b'.H) := fun a o h => .mk (atP a o h)
      refine kon b' b'.s .next wk.ok ⟨σ, b'.S, putB (IsOwn G σ r) H1 b'.H, ?_, ?_, ?_, hip, .refl, (hfl.trans f1.s).trans wk.s⟩
      · refine inv_wake hsc ok wk.ok I' wk.e0 (fun q hq => wk.pin q (List.mem_append_left _ hq)) (fun o ho => ?_) fun a ha => ?_
        · rw [hons] at ho
          cases ho
          exact wk.pin (C.n0, ons) (List.mem_append_right _ List.mem_cons_self)
        · obtain ⟨h3, _, _, ho, h4, h5⟩ := own a ha
          exact ⟨h3, wn a ha, ⟨ho, h4, h5⟩, fun o1 z1 => (wo a o1 ha z1).1⟩
      · refine ⟨⟨Ex.refl, exP, wk.h.trans exP, fun a o h n => (by rw [n] at h; cases h), Tk.sub atP⟩, e1.len, fun i d' hd => ?_, fun i j d1 d2 p' => e1.sep i j d1 d2 p', ⟨[], .nil (fun i d' hd => ?_) (fun _ _ z => False.elim z)⟩⟩
        · obtain ⟨v', s1, s2'⟩ := e1.slot i d' hd
          refine ⟨v', s1, ?_⟩
          rcases hk i with hv | hv
          · rw [hv] at s2' ⊢
            exact Rp.mono wk.s s2'
          · rw [hv] at s2' ⊢
            obtain ⟨p', ho, y1, y2, y3, y4, y5⟩ := s2'
            subst y1
            have io : IsOwn G σ r p' := ⟨i, d', hv, hd, s1⟩
            exact ⟨p', ho, rfl, by rw [put_in io]; exact y2, wS p' io, wn p' io, y5.mono wk.s⟩
        · rcases hk i with hv | hv <;> rw [hv] <;> exact ⟨fun _ q => (by cases q), fun q => (by cases q)⟩
      · exact ⟨Nat.le_refl _, fun q hq => by
          obtain ⟨h1, h2⟩ := wk.gl q hq
          obtain ⟨_, h3, h4, _⟩ := (g.kept k hsz).2 q hq
          exact ⟨h1, h3, h4, .inl h2⟩⟩
end
end Dx
end S_DxBX
section S_DxBY
set_option Elab.async false
set_option linter.all false
set_option maxRecDepth 100000
set_option maxHeartbeats 2000000
namespace Dx
open PySem L2
open PyProof.Rows hiding St
open GenW
/-- what stands in the table hands out ds as soon as it is woken -/
def Asl (C : GCt) (ds : List D) (gs : GenState) (pg : List (Addr × Obj)) (gl : List (Nat × GenState)) (S1 : Hp) : Prop := ∀ b', Wk C b' pg gl S1 → GoG (model C.P C.w) b'.A (Std C ds b') gs b'.s
/-- a generator has just been made: u, at s', out of s -/
structure GMadeD (X : Cx) (cm : CM) (k : Nat) (s : Shared) (S H : Hp) (items : List D) (u : Value) (s' : Shared) : Prop where
  ex : ∃ (C : GCt) (a : Addr) (c : Code) (pg : List (Addr × Obj)) (go : Obj), u = .ref a ∧ (C.P = X.prog ∧ C.w = X.w ∧ C.K = X.K ∧ C.mg = X.mg ∧ C.base = X.base ∧ C.cm = cm ∧ C.outer = X.stack) ∧ C.n0 = s.heap.objs.size ∧ C.os = s.os ∧ (∀ A, Room k A → Room C.k (A.deeper C.env)) ∧ C.pn = [(a, go)] ∧
    s'.heap.IsGen a s.gens.size ∧ (∀ h : Heap, h.get? a = some go → h.IsGen a s.gens.size) ∧ s'.gens = s.gens.push (.fresh c) ∧ s'.os = s.os ∧ (∀ b o, s.heap.get? b = some o → s'.heap.get? b = some o) ∧
    (∀ q ∈ pg, s'.heap.get? q.1 = some q.2 ∧ C.n0 ≤ q.1 ∧ q.1 < s'.heap.objs.size ∧ ∀ v, q.2.data ≠ .cell v) ∧ (a, go) ∈ pg ∧ Asl C items (.fresh c) pg [] S
theorem cut_all (s : Shared) : cutS s.heap.objs.size s = s := by
  obtain ⟨⟨objs, life⟩, g, d, t, o⟩ := s
  show (⟨⟨(objs.toList.take objs.size).toArray, life⟩, g, d, t, o⟩ : Shared) = _
  rw [List.take_of_length_le (by simp)]
/-- by data: what the body hands out -/
def runGF (n : Nat) (Fb : Rho → List D × SR) (ds : List D) : Res (List D) := match Fb (startR n ds) with
  | (ys, .nx _) => .ok ys
  | (ys, .rt .non) => .ok ys
  | _ => .bad
theorem RpA.modes {c : Cf} {S H : Hp} : ∀ {vs : List V} {ds : List D}, RpA c.K c.cm S vs ds → RpM c S H (List.replicate vs.length false) vs ds
  | _, _, .nil => trivial
  | _, _, .cons h r => ⟨h, RpA.modes r⟩
/-- a generator def's promise, by data -/
structure GFnD (P : Program) (w : World) (K : PySem.W.Frag) (mg : Str → Option Value) (base : Heap) (cm : CM) (k : Nat) (f : Addr) (fd : FuncData) (ps : List Str) (F : List D → Res (List D)) : Prop where
  run : ∀ (X : Cx), X.prog = P → X.w = w → X.K = K → X.mg = mg → X.base = base → ∀ (s : Shared) (S H : Hp) (args : Args) (us : List Value) (vs : List V) (ds items : List D), Room k X.A → Env0 P w K mg base X.A X.stack s H → BindsTo s fd args (ps.zip us) → Vals vs us → vs.length = ps.length →
    Ex S H → RpA K cm S vs ds → F ds = .ok items → codeAny (model P w) X.A (.call (.ref f) args) (fun r s' => match r with | .ok (.ret u) => GMadeD X cm k s S H items u s' | _ => False) s
section
variable {P : Program} {w : World} {K : PySem.W.Frag} {mg : Str → Option Value} {base : Heap} {cm : CM}
/-- THE RULE for a generator def: its body by data -/
theorem dokG {x qual : Str} {st : Stmt} {f : Addr} {fd : FuncData} {N ps : List Str} {k : Nat} {G' : List Ow} {Fb : Rho → List D × SR} (F : Fun K x qual st f fd) (S : GScope N ps (defScope st)) (hsc : NoCell (defScope st)) (hn : ps.length ≤ N.length)
    (hb : ∀ C : GCt, C.P = P → C.w = w → C.K = K → C.mg = mg → C.base = base → C.cm = cm → C.N = N → C.qual = qual → C.scope = defScope st → C.f = f → C.k = k → (∀ q ∈ C.pn, C.n0 ≤ q.1) → GStms C [] (G0 (List.replicate ps.length false) N.length) G' (defBody st) Fb) :
    GFnD P w K mg base cm (k + 1) f fd ps (runGF N.length Fb) := by
  obtain ⟨oc, od, kV, doc, pm, an, cdv, ct, osl, rfl, lk, hcd⟩ := F.ex
  refine ⟨fun X hP hw hK hmg hbase s Sg H args us vs ds items hr e0 hbd rv hl ex hds hF => ?_⟩
  have KX : K.In s.heap := e0.mod.kin.keeps fun b o e => (e0.bs b o e).1
  have lim : s.heap.NoLimit := e0.mod.nolimit.keeps fun b o e => (e0.bs b o e).1
  have hkind : ∀ y ∈ ps.zip us, (defScope st).names.lookup y.1 = some .local ∨ ((defScope st).names.lookup y.1 = some .cell ∧ ((cellsFrom (s.heap.objs.size + 1) (defScope st).names []).lookup y.1).isSome = true) := fun ⟨n, v⟩ hy => by
    rcases S.par n (List.of_mem_zip hy).1 with q | q
    · exact .inl q
    · exact (hsc.not (.inl q)).elim
  refine codeAny_call_generator hr.depth (KX _ _ lk) rfl S.co S.gen rfl (PySem.W.codeRec_of KX hcd) ?_
  refine hbd _ _ _ _ ?_
  refine wpAny_newFunctionEnv_cells S.kind hkind fun env he s1 y => ?_
  subst he
  refine ⟨lim.keeps y.toInCall.keep, ?_⟩
  obtain ⟨h1, tk, es1, hk1⟩ := y.done
  have os1 : s1.os = s.os := by rw [es1]
  have gen1 : s1.gens = s.gens := by rw [es1]
  have lt1 : s.heap.objs.size < s1.heap.objs.size := y.toInCall.ns.lt
  have kp1 : ∀ b o, s.heap.get? b = some o → s1.heap.get? b = some o := y.toInCall.keep
  have main : ∀ (go : Obj) (nm qn : Value) (tk2 : Nat), go.cls = .type "generator" → go.data = .fields #[.int s1.gens.size 0, nm, qn] → go.slots = #[] → (∀ h : Heap, (h.push go).get? h.objs.size = some go) →
      GMadeD X cm (k + 1) s Sg H items (.ref s1.heap.objs.size) { s1 with gens := s1.gens.push (.fresh (.func (defBody st) (envOfC qual (defScope st) s.heap.objs.size f cdv))), toks := tk2, heap := s1.heap.push go } := by
    intro go nm qn tk2 hgc hgd hgs hgp
    have hgen : ∀ h : Heap, h.get? s1.heap.objs.size = some go → h.IsGen s1.heap.objs.size s.gens.size := fun h e => ⟨go, nm, qn, e, hgc, by rw [hgd, gen1], hgs⟩
    have hpush : (s1.heap.push go).get? s1.heap.objs.size = some go := hgp _
    obtain ⟨m, ons, es, ep, hons, hdata, hstr⟩ : ∃ m, s1.heap.Ns s.heap.objs.size m := ⟨_, y.toInCall.ns⟩
    have honsP : (s1.heap.push go).get? s.heap.objs.size = some ons := Heap.get?_push_of_some _ hons
    let C : GCt := { P := P, w := w, K := K, mg := mg, base := base, cm := cm, N := N, qual := qual, scope := defScope st, f := f, cd := cdv, outer := X.stack, n0 := s.heap.objs.size, os := s.os, k := k, pn := [(s1.heap.objs.size, go)] }
    have room : ∀ A, Room (k + 1) A → Room C.k (A.deeper C.env) := fun A hA => hA.deeper _
    refine ⟨C, s1.heap.objs.size, .func (defBody st) (envOfC qual (defScope st) s.heap.objs.size f cdv), [(s1.heap.objs.size, go), (s.heap.objs.size, ons)], go, rfl, ⟨hP.symm, hw.symm, hK.symm, hmg.symm, hbase.symm, rfl, rfl⟩, rfl, rfl, room, rfl, hgen _ hpush, hgen, ?_, os1, fun b o e => Heap.get?_push_of_some _ (kp1 b o e), fun q hq => ?_, List.mem_cons_self, fun b' wk => ?_⟩
    · show s1.gens.push _ = s.gens.push _
      rw [gen1]
    · have hs : s1.heap.objs.size < (s1.heap.push go).objs.size := by rw [Heap.size_push]; exact Nat.lt_succ_self _
      rcases List.mem_cons.mp hq with hq | hq
      · subst hq
        exact ⟨hpush, Nat.le_of_lt lt1, hs, fun v q => by rw [hgd] at q; cases q⟩
      · rw [List.mem_singleton.mp hq]
        exact ⟨honsP, Nat.le_refl _, Nat.lt_trans lt1 hs, fun v q => by rw [hdata] at q; cases q⟩
    · show GRun (model P w) b'.A (Std C items b') (.func (defBody st) C.env) ((model P w).den (.func (defBody st) C.env)) [] b'.s
      refine gr_func fun J' => ?_
      unfold runGF at hF
      have I1 : Inv (gcxOf P w K mg base N qual (defScope st) f cdv X.A X.stack s H noX []) [] (start N vs) H s1 := inv_startG S hr.hd e0 hl rv y
      have I2 : Inv (gcxOf P w K mg base N qual (defScope st) f cdv X.A X.stack s H noX []) [] (start N vs) H { s1 with heap := s1.heap.push go, toks := tk2 } := I1.kept fun b o e => Heap.get?_push_of_some _ e
      have young : ∀ b, s1.heap.objs.size ≤ b → H b = none ∧ b ≠ s.heap.objs.size ∧ b ∉ frs X.stack := fun b hb => ⟨I1.hok.fresh hb, Nat.ne_of_gt (Nat.lt_of_lt_of_le lt1 hb), I1.nofs hb⟩
      have I3 : Inv (C.X ⟨X.A, s, Sg, H, []⟩) [] (start N vs) H { s1 with heap := s1.heap.push go, toks := tk2 } := by
        show Inv (gcxOf P w K mg base N qual (defScope st) f cdv X.A X.stack (cutS s.heap.objs.size s) H noX [(s1.heap.objs.size, go)]) _ _ _ _
        rw [cut_all]
        refine Inv.pinnedG I2 fun q hq => ?_
        rw [List.append_nil] at hq
        rw [List.mem_singleton.mp hq]
        obtain ⟨y1, y2, y3⟩ := young _ (Nat.le_refl _)
        exact ⟨hpush, y1, y2, y3, fun v q => by rw [hgd] at q; cases q⟩
      have okB : C.Ok ⟨X.A, s, Sg, H, []⟩ := ⟨room X.A hr, e0.frames, Nat.le_refl _, rfl⟩
      have I4 := inv_wake (O := fun _ => False) hsc okB wk.ok I3 wk.e0 (fun q hq => by
        rw [List.append_nil] at hq
        rw [List.mem_singleton.mp hq]
        exact wk.pin _ List.mem_cons_self) (fun o ho => by
        rw [show ({ s1 with heap := s1.heap.push go, toks := tk2 } : Shared).heap.get? C.n0 = some ons from honsP] at ho
        cases ho
        exact wk.pin _ (List.mem_cons_of_mem _ (List.mem_singleton.mpr rfl))) (fun p hp => hp.elim)
      have ep : putB (fun _ => False) H b'.H = b'.H := by
        funext a
        exact put_out fun z => z
      rw [ep] at I4
      have hds' : RpA K cm b'.S vs ds := hds.mono wk.s
      have env : EnvOk C.cf b'.S b'.H (G0 (List.replicate ps.length false) N.length) b'.S b'.H (start N vs) (startR N.length ds) := by
        refine env_start wk.h ?_ (by simpa using hn)
        rw [← hl]
        exact RpA.modes (c := C.cf) hds'
      have hst : GSt C (fun _ => none) b' [] [] (G0 (List.replicate ps.length false) N.length) (startR N.length ds) b'.s := ⟨_, b'.S, b'.H, I4, env, ⟨Nat.le_refl _, fun q hq => (by cases hq)⟩, fun q hq => (by cases hq), GoneN.refl, fun _ _ h => (by cases h)⟩
      have pos : GPos C (.func (defBody st) C.env) [] id := ⟨rfl, fun A => over_func, rfl, rfl⟩
      have hpn : ∀ q ∈ C.pn, C.n0 ≤ q.1 := fun q hq => by
        rw [List.mem_singleton.mp hq]
        exact Nat.le_of_lt lt1
      have hbody := hb C rfl rfl rfl rfl rfl rfl rfl rfl rfl rfl rfl hpn
      have aft : ∀ {B : GB} {z : Shared} {σ' : L2.St} {S' H' : Hp}, C.Ok B → Inv (C.X B) [] σ' H' z → Fwd B.S B.H S' H' → B.s.gens.size ≤ z.gens.size → Aft C B S' H' z := fun okb I f gs => ⟨f, I.base, I.hok, I.os.trans okb.os, I.bare, gs, fun q hq => (I.pin q (List.mem_append_left _ hq)).1⟩
      cases hB : Fb (startR N.length ds) with
      | mk ys o =>
        rw [hB] at hF
        have fin : ∀ o, okO o → (o = .rt .non ∨ ∃ r, o = .nx r) → GKon C (fun _ => none) [] [] [] G' o [] (.func (defBody st) C.env) [] (fun f => .pure (.done (.ret (match f with | .ret v => v | _ => .none)))) := by
          intro o _ ho B z fl okb out
          rcases ho with ho | ⟨r, ho⟩
          · subst ho
            cases fl with
            | ret u =>
              obtain ⟨v, σ', S', H', r1, I', f', hv, gs⟩ := out
              cases hv
              have eu : u = Value.none := r1
              subst eu
              exact gr_end (.ok (.ret .none)) ⟨rfl, S', H', aft okb I' f' gs⟩
            | _ => exact out.elim
          · subst ho
            cases fl with
            | next =>
              obtain ⟨σ', S', H', I', e', g', _, _⟩ := out
              exact gr_end (.ok (.ret .none)) ⟨rfl, S', H', aft okb I' e'.fwd g'.1⟩
            | _ => exact out.elim
        cases o with
        | nx r =>
          cases hF
          have z := hbody _ [] [] b' b'.s _ _ (.nx r) [] _ [] _ J' id id wk.ok pos hB trivial hst (fin _ trivial (.inr ⟨r, rfl⟩))
          rw [List.append_nil] at z
          exact z
        | rt d =>
          cases d with
          | non =>
            cases hF
            have z := hbody _ [] [] b' b'.s _ _ (.rt .non) [] _ [] _ J' id id wk.ok pos hB trivial hst (fin _ trivial (.inl rfl))
            rw [List.append_nil] at z
            exact z
          | _ => cases hF
        | _ => cases hF
  exact main _ _ _ _ rfl rfl rfl fun h => Heap.get?_push_size _ rfl
end
/-- an expression whose value is a generator not begun -/
structure GEx (X : Cx) (c : Cf) (G : List Ow) (k : Nat) (e : Expr) (its : Rho → Res (List D)) : Prop where
  run : ∀ (pins : List (Addr × Obj)) (s : Shared) (σ : L2.St) (S0 H0 S H : Hp) (r : Rho) (items : List D), Inv X pins σ H s → EnvOk c S0 H0 G S H σ r → its r = .ok items →
    wpAny (model X.prog X.w) X.A (eval e X.env) (fun u s' => ∃ S1 H1 sc, s.gens.size ≤ sc.gens.size ∧ Fwd S H S1 H1 ∧ Inv X pins σ H1 sc ∧ GMadeD X c.cm k sc S1 H1 items u s') X.xe s
section
variable {X : Cx} {c : Cf} {G : List Ow} {k : Nat} {f : Addr} {fd : FuncData} {ps : List Str} {x : Str} {p pos : Pos} {e : Expr} {es : List Expr} {fs : Rho → Res (List D)} {F : List D → Res (List D)}
/-- the call, behind its arguments -/
theorem run_gfnD {pins : List (Addr × Obj)} {σ : L2.St} {S H : Hp} {s : Shared} {us : List Value} {vs : List V} {ds items : List D} {E1 : Value → Shared → Prop} (F1 : GFnD X.prog X.w X.K X.mg X.base c.cm k f fd ps F) (hK : c.K = X.K) (hr : Room k X.A) (hb : Binds X.K fd ps []) (I : Inv X pins σ H s) (ex : Ex S H)
    (r : Vals vs us) (hl : vs.length = ps.length) (hd : RpA c.K c.cm S vs ds) (hF : F ds = .ok items) : wpAny (model X.prog X.w) X.A (call (.ref f) us) (fun u s' => GMadeD X c.cm k s S H items u s') E1 s := by
  have hl2 : (us ++ []).length = ps.length := by rw [List.append_nil, ← r.length]; exact hl
  have hb2 := hb s us I.kIn hl2
  rw [List.append_nil] at hb2
  refine wpAny_call (codeAny_mono (F1.run X rfl rfl rfl rfl rfl s S H ⟨us, []⟩ us vs ds items hr I.env0 hb2 r hl ex (by rw [← hK]; exact hd) hF) fun res s' q => ?_)
  cases res with
  | error e => exact q.elim
  | ok fl =>
    cases fl with
    | ret u => exact q
    | next => exact q.elim
    | brk => exact q.elim
    | cont => exact q.elim
def dGen (F : List D → Res (List D)) (fs : Rho → Res (List D)) : Rho → Res (List D) := fun r => (fs r).bind F
/-- f(e, ..), f a generator def of the text -/
theorem dg_callG (F1 : GFnD X.prog X.w X.K X.mg X.base c.cm k f fd ps F) (hr : Room k X.A) (hg : Gl X x) (hm : X.mg x = some (.ref f)) (hk : PySem.W.keepIn X.K (.ref f) = true) (hb : Binds X.K fd ps []) (hlen : ∀ r ds, fs r = .ok ds → ds.length = ps.length) (ha : PA X (e :: es) (tAs c G fs))
    (hK : c.K = X.K := by rfl) (hdb : (x == ("__debug__" : Str)) = false := by decide) (he : starEach (e :: es) X.env = (false, eval e X.env) :: starEach es X.env := by rfl) (hpl : (backTo pos (starEach es X.env)).any (·.1) = false := by rfl) : GEx X c G k (.Call (.Name x p) (e :: es) [] pos) (dGen F fs) := by
  refine ⟨fun pins s σ S0 H0 S H r items I ev hi => ?_⟩
  unfold dGen at hi
  cases hfs : fs r with
  | err n ns vs => rw [hfs] at hi; cases hi
  | bad => rw [hfs] at hi; cases hi
  | ok ds =>
    rw [hfs] at hi
    refine wpAny_Call_Name_kw (ld_glob I hg hm ?_ hdb)
    have hrun := ha.run pos pins s σ H (fun vs H1 => ∃ S1, Fwd S H S1 H1 ∧ RpA c.K c.cm S1 vs ds) I ⟨S0, H0, S, r, ev, by
      rw [hfs]
      exact fun S' H' fw vs hv => ⟨S', fw, hv⟩⟩
    have hrun2 := wpAny_gsz (n := s.gens.size) (Nat.le_refl _) (wpAny_mono hrun (fun us z q k => (⟨k, q⟩ : s.gens.size ≤ z.gens.size ∧ _)) fun _ _ q _ => q)
    refine PySem.W.callWith_K (h₀ := X.base) I.ok.mod.kin hk (thn hrun2 fun us s1 ⟨hsz, vs, H1, I1, rr, S1, f1, q⟩ => ⟨I1.kIn, ?_⟩) he hpl
    have hl : vs.length = ps.length := by rw [q.length]; exact hlen r ds hfs
    exact thn (run_gfnD F1 hK hr hb I1 f1.sub rr hl q hi) fun u s' z => ⟨S1, H1, s1, hsz, f1, I1, z⟩
end
end Dx
end S_DxBY
section S_DxBZ
set_option Elab.async false
set_option linter.all false
set_option maxRecDepth 100000
set_option maxHeartbeats 2000000
namespace Dx
open PySem L2
open PyProof.Rows hiding St
open GenW
/-- an exception's state: the table does not matter -/
def XeG (X : Cx) : Prop := ∀ (ρ : Nat → Option GenState) (x : Value) (s2 : Shared), DeadAt ρ s2 → ngs s2.gens → (∀ i y, ρ i = some y → y.bare = true) → X.xe x s2 → X.xe x (rest ρ s2)
theorem rest_bare {ρ : Nat → Option GenState} {s2 : Shared} (d : DeadAt ρ s2) (h : ∀ i y, ρ i = some y → y.bare = true) (h2 : AllBare s2.gens) : AllBare (rest ρ s2).gens := bare_of fun i y e => by
  cases q : ρ i with
  | none => rw [rest_free q] at e; exact bare_get h2 e
  | some x =>
    rw [rest_at d q] at e
    cases e
    exact h i _ q
theorem sleeps_bare {U : Nat → Prop} {a : Array GenState} (h : AllBare a) : ∀ i y, sleeps U a i = some y → y.bare = true := fun i y e => bare_get h (sleeps_some e).2.1
theorem xeG_cx {P : Program} {w : World} {K : PySem.W.Frag} {mg : Str → Option Value} {base : Heap} {N : List Str} {qual : Str} {scope : Scope} {f : Addr} {cd : Value} {A : Around} {outer : List Env} {s : Shared} {H : Hp} {E : XK} :
    XeG (cxOf (L2N.CX P w) P w K mg base N qual scope f cd A outer s H E) := by
  intro ρ x s2 d n hb h
  have tr : ∀ e z, Back ρ (fun (e : Value) y => L2N.CX P w outer H s E e y) e z → L2N.CX P w outer H s E e z := by
    rintro e z ⟨s3, rfl, d3, _, q⟩
    obtain ⟨a, B, H', cls, dd, z1, fl, z2, ub, z3, z4, z5, z6⟩ := q
    exact ⟨a, B, H', cls, dd, z1, fl, z2, ub, z3, z4, rest_bare d3 hb z5, z6⟩
  refine wpAny_mono (wpAny_swap d n h) (fun u z q => ?_) fun e z q => tr e z q
  obtain ⟨s3, e3, d3, n3, q⟩ := q
  exact tr x z ⟨s3, e3, d3, n3, q⟩
section
variable {X : Cx} {pins : List (Addr × Obj)}
theorem pieceX {α : Type} {M : Model} {m : Sem α} {s : Shared} {Q : α → Shared → Prop} (xg : XeG X) (hb : AllBare s.gens) (h : wpAny M X.A m Q X.xe (dead (fun _ => False) s)) :
    wpAny M X.A m (fun a s' => ∃ s2, s' = rest (sleeps (fun _ => False) s.gens) s2 ∧ DeadAt (sleeps (fun _ => False) s.gens) s2 ∧ Q a s2 ∧ KeptG (fun _ => False) s s' ∧ s.gens.size ≤ s'.gens.size ∧ GoneN s s') X.xe s :=
  wpAny_mono (piece hb h) (fun _ _ q => q) fun x s' ⟨s2, e2, d, n, q⟩ => by
    rw [e2]
    exact xg _ x s2 d n (sleeps_bare hb) q
/-- all that the consumer has is older than the generator -/
structure Young (X : Cx) (pins : List (Addr × Obj)) (n : Nat) : Prop where
  s0 : X.s_0.heap.objs.size ≤ n
  loc : X.env.locals < n
  cell : ∀ x c, X.env.cells.lookup x = some c → c < n
  pin : ∀ q ∈ X.pn ++ pins, q.1 < n
theorem Young.of {σ : L2.St} {H : Hp} {s : Shared} (I : Inv X pins σ H s) : Young X pins s.heap.objs.size := ⟨I.sz, I.lt, fun x c e => by
  obtain ⟨v, q⟩ := I.cell x c e
  exact q.lt, fun q hq => Heap.lt_size (I.pin q hq).1⟩
/-- the consumer behind a stretch -/
theorem inv_behind {pg' : List (Addr × Obj)} {σ : L2.St} {H H1 : Hp} {s z : Shared} {n : Nat} (I : Inv X pins σ H s) (yg : Young X pins n) (un : Un (frs X.stack) [] H H1 (cutH n s.heap) z.heap) (hok : HOk X.prog X.w H1 z.heap) (os : z.os = s.os) (hb : AllBare z.gens)
    (hp : ∀ q ∈ pg', z.heap.get? q.1 = some q.2 ∧ H1 q.1 = none ∧ n ≤ q.1 ∧ ∀ u, q.2.data ≠ .cell u) : Inv X (pins ++ pg') σ H1 z := by
  have young : ∀ b, b ∉ (List.range s.heap.objs.size).filter (fun b => decide (n ≤ b)) → b < s.heap.objs.size → b < n := fun b hb hl => by
    apply Classical.byContradiction
    intro h
    exact hb (List.mem_filter.mpr ⟨List.mem_range.mpr hl, decide_eq_true (Nat.le_of_not_lt h)⟩)
  have I1 : Inv X pins σ H1 z := by
    refine I.call' (ch := (List.range s.heap.objs.size).filter (fun b => decide (n ≤ b))) os ⟨fun b o e h1 h2 h3 => ?_, fun b o e h1 h2 h3 => ?_, fun b o e h1 h3 => ?_, fun b o e h3 => ?_, un.tups, un.frzs, un.tbls⟩ hok hb fun b hb => ?_
    · exact un.keep b o (cut_of (young b h3 (Heap.lt_size e)) e) h1 h2 (by simp)
    · exact un.slot b o (cut_of (young b h3 (Heap.lt_size e)) e) h1 h2 (by simp)
    · exact un.free b o (cut_of (young b h3 (Heap.lt_size e)) e) h1 (by simp)
    · exact un.there b o (cut_of (young b h3 (Heap.lt_size e)) e) (by simp)
    · have hn : n ≤ b := of_decide_eq_true (List.mem_filter.mp hb).2
      exact ⟨.inr (Nat.le_trans yg.s0 hn), fun q => absurd yg.loc (by rw [← q]; exact Nat.not_lt.mpr hn), fun x c e q => absurd (yg.cell x c e) (by rw [q]; exact Nat.not_lt.mpr hn), fun p hp q => absurd (yg.pin p hp) (by rw [q]; exact Nat.not_lt.mpr hn)⟩
  refine I1.pins_of fun q hq => ?_
  rcases List.mem_append.mp hq with hq | hq
  · exact I1.pin q (List.mem_append_right _ hq)
  · obtain ⟨h1, h2, h3, h4⟩ := hp q hq
    refine ⟨h1, h2, fun e => ?_, fun e => ?_, h4⟩
    · exact absurd yg.loc (by rw [← e]; exact Nat.not_lt.mpr h3)
    · obtain ⟨_, o, ho, _⟩ := I.ok.funs.mem e
      exact absurd (Heap.lt_size ho) (Nat.not_lt.mpr (Nat.le_trans yg.s0 h3))
/-- what is known of a sleeping generator -/
structure Slp (X : Cx) (cm : CM) (C : GCt) (a : Addr) (g : Nat) (k : Nat) (go : Obj) : Prop where
  p : C.P = X.prog
  w : C.w = X.w
  K : C.K = X.K
  mg : C.mg = X.mg
  base : C.base = X.base
  cm : C.cm = cm
  outer : C.outer = X.stack
  room : ∀ A, Room k A → Room C.k (A.deeper C.env)
  gen : ∀ h : Heap, h.get? a = some go → h.IsGen a g
  pn : C.pn = [(a, go)]
/-- .. as it stands at s -/
structure SlpAt (C : GCt) (a : Addr) (g : Nat) (go : Obj) (ds : List D) (gs : GenState) (pg : List (Addr × Obj)) (gl : List (Nat × GenState)) (S1 : Hp) (s : Shared) : Prop where
  asl : Asl C ds gs pg gl S1
  hpg : ∀ q ∈ pg, C.n0 ≤ q.1
  hgo : (a, go) ∈ pg
  hgs : s.gens[g]? = some gs
  hng : ngG gs
  hgl : ∀ q ∈ gl, s.gens[q.1]? = some q.2 ∧ isSus q.2 = true ∧ ngG q.2 ∧ q.1 ≠ g
  hsz : C.n0 ≤ s.heap.objs.size
  hos : s.os = C.os
/-- behind next -/
def NextP (X : Cx) (cm : CM) (pins : List (Addr × Obj)) (σ : L2.St) (C : GCt) (a : Addr) (g : Nat) (go : Obj) (S H : Hp) (gl0 : List (Nat × GenState)) (n : Nat) (ds : List D) (r : Option Value) (s' : Shared) : Prop := match ds with
  | [] => r = none ∧ ∃ S' H', Fwd S H S' H' ∧ Inv X pins σ H' s'
  | d :: ds => ∃ v x S' H' gs pg gl, r = some v ∧ RelV x v ∧ Rp C.K cm S' x d ∧ Fwd S H S' H' ∧ Inv X (pins ++ pg) σ H' s' ∧ isSus gs = true ∧ (∀ q ∈ gl, (∃ y ∈ gl0, y.1 = q.1) ∨ n ≤ q.1) ∧ SlpAt C a g go ds gs pg gl S' s'
theorem next_run {cm : CM} {C : GCt} {a : Addr} {g k : Nat} {go : Obj} {ds : List D} {gs : GenState} {pg : List (Addr × Obj)} {gl : List (Nat × GenState)} {S1 S H : Hp} {s : Shared} {σ : L2.St} {E : Value → Shared → Prop} {A' : Around} (hr : Room (k + 1) A') (hfr : A'.frames = some X.stack) (sl : Slp X cm C a g k go) (yg : Young X pins C.n0)
    (I : Inv X (pins ++ pg) σ H s) (sa : SlpAt C a g go ds gs pg gl S1 s) (e1 : Ex S1 S) (e2 : Ex S H) : wpAny (model X.prog X.w) A' (pyNext (.ref a))
      (fun r s' => KeptG (fun i => i = g ∨ ∃ q ∈ gl, q.1 = i) s s' ∧ s.gens.size ≤ s'.gens.size ∧ GoneN s s' ∧ NextP X cm pins σ C a g go S H gl s.gens.size ds r s') E s := by
  obtain ⟨P, w, K, mg, base, cm', N, qual, scope, f, cd, outer, n0, os, k0, pn⟩ := C
  obtain ⟨rfl, rfl, rfl, rfl, rfl, rfl, rfl, room, hgen, hpn⟩ := sl
  generalize hC : (⟨X.prog, X.w, X.K, X.mg, X.base, cm', N, qual, scope, f, cd, X.stack, n0, os, k0, pn⟩ : GCt) = C at *
  have cP : C.P = X.prog := by rw [← hC]
  have cw : C.w = X.w := by rw [← hC]
  have cout : C.outer = X.stack := by rw [← hC]
  have cn : C.n0 = n0 := by rw [← hC]
  have cpn : C.pn = pn := by rw [← hC]
  have ccm : C.cm = cm' := by rw [← hC]
  have hgl : g < s.gens.size := (Array.getElem?_eq_some_iff.mp sa.hgs).1
  let U : Nat → Prop := fun i => i = g ∨ ∃ q ∈ gl, q.1 = i
  have hU : ∀ (i : Nat) (x : GenState), U i → s.gens[i]? = some x → ngG x := by
    rintro i x (rfl | ⟨q, hq, rfl⟩) e
    · rw [sa.hgs] at e; cases e; exact sa.hng
    · obtain ⟨h1, _, h3, _⟩ := sa.hgl q hq
      rw [h1] at e; cases e; exact h3
  have inU : ∀ {i : Nat}, U i → sleeps U s.gens i = none := fun {i} h => by
    unfold sleeps
    exact if_pos h
  have gU : U g := .inl rfl
  have deadU : ∀ {i : Nat}, U i → (dead U s).gens[i]? = s.gens[i]? := fun {i} h => by
    rw [dead_get, inU h]
    cases s.gens[i]? <;> rfl
  have Id : Inv X (pins ++ pg) σ H (dead U s) := I.deadG U
  have hds : (dead U s).gens.size = s.gens.size := by
    show (s.gens.mapIdx _).size = _
    rw [Array.size_mapIdx]
  let b' : GB := ⟨A'.in1, (dead U s).setGen g .running, S, H, gl.map (·.1)⟩
  have e0 := Id.env0
  have wk : Wk C b' pg gl S1 := by
    refine ⟨⟨room _ hr.in1, ?_, sa.hsz, sa.hos⟩, ?_, e1, e2, fun q hq => ?_, fun q hq => ?_⟩
    · rw [cout]; exact hfr
    · rw [← hC]
      exact ⟨hfr, e0.mod, e0.bs, e0.bsz, e0.funs, e0.frf, e0.hok, allBare_setGen (s := dead U s) e0.bare rfl⟩
    · obtain ⟨h1, h2, _⟩ := Id.pin q (List.mem_append_right _ (List.mem_append_right _ hq))
      exact ⟨h1, h2⟩
    · obtain ⟨h1, _, _, h4⟩ := sa.hgl q hq
      refine ⟨?_, List.mem_map_of_mem hq⟩
      show ((dead U s).gens.setIfInBounds g .running)[q.1]? = _
      rw [Array.getElem?_setIfInBounds_ne (Ne.symm h4), deadU (.inr ⟨q, hq, rfl⟩)]
      exact h1
  have go1 := sa.asl b' wk
  rw [cP, cw] at go1
  have hgo : (dead U s).heap.get? a = some go := (Id.pin (a, go) (List.mem_append_right _ (List.mem_append_right _ sa.hgo))).1
  have h : wpAny (model X.prog X.w) A' (pyNext (.ref a)) (NextP X cm' pins σ C a g go S H gl s.gens.size ds) (fun _ _ => False) (dead U s) := by
    refine wpAny_nextG (Φ := Std C ds b') hr.hd Id.nolimit hr.depth (hgen _ hgo) (by rw [deadU gU]; exact sa.hgs) go1 (fun v gd l k c p fs z hz => ?_) fun r z hz => ?_
    · cases ds with
      | nil => exact hz.elim
      | cons d ds =>
        obtain ⟨hq, hng, x, S2, H2, pg2, gl2, rv, hx, aft, hpg, hsub, glk, nxt⟩ := hz
        refine ⟨hq, v, x, S2, H2, (End.susp v gd l k c p fs).genState, pg2, gl2, rfl, rv, ?_, aft.fwd, ?_, rfl, fun q hq => ?_, ⟨nxt, fun q hq => (hpg q hq).2.2.1, hsub _ (by rw [hpn]; exact List.mem_singleton.mpr rfl), ?_, hng, fun q hq => ?_, ?_, aft.os⟩⟩
        · rw [← ccm]; exact hx
        · refine inv_behind (n := n0) (z := z.setGen g _) (Id.unpinned) (by rw [← cn]; exact yg) ?_ ?_ ?_ ?_ fun q hq => ?_
          · have := aft.un
            rw [cout, cn] at this
            exact this
          · have := aft.hok
            rw [cP, cw] at this
            exact this
          · show z.os = s.os
            rw [aft.os, sa.hos]
          · exact allBare_setGen aft.bare (End.bare_of_quiet hq)
          · obtain ⟨h1, h2, h3, h4⟩ := hpg q hq
            exact ⟨h1, h2, by rw [← cn]; exact h3, h4⟩
        · obtain ⟨_, _, _, h4⟩ := glk.2 q hq
          rcases h4 with h4 | h4
          · obtain ⟨y, hy, e⟩ := List.mem_map.mp h4
            exact .inl ⟨y, hy, e⟩
          · refine .inr ?_
            have e : b'.s.gens.size = s.gens.size := by
              show ((dead U s).gens.setIfInBounds g .running).size = _
              rw [Array.size_setIfInBounds, hds]
            omega
        · refine setGen_at ?_
          have := aft.gsz
          have e : b'.s.gens.size = s.gens.size := by
            show ((dead U s).gens.setIfInBounds g .running).size = _
            rw [Array.size_setIfInBounds, hds]
          omega
        · obtain ⟨h1, h2, h3, h4⟩ := glk.2 q hq
          have hne : q.1 ≠ g := by
            rcases h4 with h4 | h4
            · obtain ⟨y, hy, e⟩ := List.mem_map.mp h4
              rw [← e]
              exact (sa.hgl y hy).2.2.2
            · have e : b'.s.gens.size = s.gens.size := by
                show ((dead U s).gens.setIfInBounds g .running).size = _
                rw [Array.size_setIfInBounds, hds]
              omega
          refine ⟨?_, h2, h3, hne⟩
          show (z.gens.setIfInBounds g _)[q.1]? = _
          rw [Array.getElem?_setIfInBounds_ne (Ne.symm hne)]
          exact h1
        · have := (hpg (a, go) (hsub _ (by rw [hpn]; exact List.mem_singleton.mpr rfl)))
          exact Nat.le_trans this.2.2.1 (Nat.le_of_lt (Heap.lt_size this.1))
    · cases ds with
      | cons d ds => exact hz.elim
      | nil =>
        obtain ⟨h1, S2, H2, aft⟩ := hz
        refine ⟨.inl h1, fun h' hk => ⟨rfl, S2, H2, aft.fwd, ?_⟩⟩
        have I2 : Inv X (pins ++ []) σ H2 (z.setGen g .finished) := by
          refine inv_behind (n := n0) (Id.unpinned) (by rw [← cn]; exact yg) ?_ ?_ ?_ ?_ fun q hq => by cases hq
          · have := aft.un
            rw [cout, cn] at this
            exact this
          · have := aft.hok
            rw [cP, cw] at this
            exact this
          · show z.os = s.os
            rw [aft.os, sa.hos]
          · exact allBare_setGen aft.bare rfl
        rw [List.append_nil] at I2
        exact I2.kept (t' := z.toks) hk
  have h1 : wpAny (model X.prog X.w) A' (pyNext (.ref a)) (fun r z => (s.gens.size ≤ z.gens.size ∧ GoneN s z) ∧ NextP X cm' pins σ C a g go S H gl s.gens.size ds r z) (fun _ _ => False) (dead U s) := by
    refine wpAny_gsz (n := s.gens.size) (by rw [hds]; exact Nat.le_refl _) (wpAny_mono (wpAny_nb h) (fun r z q hz => ⟨⟨hz, ?_⟩, q.2⟩) fun _ _ q _ => q)
    exact (GoneN.same rfl).trans q.1
  refine wpAny_kept U hU h1 (fun r s2 d n q kk => ⟨kk, by rw [rest_size]; exact q.1.1, q.1.2.trans (GoneN.same rfl), ?_⟩) fun _ _ _ _ q _ => q.elim
  cases ds with
  | nil =>
    obtain ⟨h1, S2, H2, f2, I2⟩ := q.2
    exact ⟨h1, S2, H2, f2, I2.restG d I.bare⟩
  | cons dd ds =>
    obtain ⟨v, x, S2, H2, gs2, pg2, gl2, a1, a2, a3, a4, I2, a5, a6, sa2⟩ := q.2
    have free : ∀ {i : Nat}, (U i ∨ s.gens.size ≤ i) → sleeps U s.gens i = none := fun {i} hi => by
      rcases hi with hi | hi
      · exact inU hi
      · unfold sleeps
        split
        · rfl
        · rw [Array.getElem?_eq_none hi]
    refine ⟨v, x, S2, H2, gs2, pg2, gl2, a1, a2, (by rw [ccm]; exact a3), a4, I2.restG d I.bare, a5, a6, ⟨sa2.asl, sa2.hpg, sa2.hgo, ?_, sa2.hng, fun q hq => ?_, sa2.hsz, sa2.hos⟩⟩
    · rw [rest_free (inU gU)]; exact sa2.hgs
    · obtain ⟨b1, b2, b3, b4⟩ := sa2.hgl q hq
      refine ⟨?_, b2, b3, b4⟩
      have q3 : sleeps U s.gens q.1 = none := free ((a6 q hq).imp (fun ⟨y, hy, e⟩ => .inr ⟨y, hy, e⟩) id)
      rw [rest_free q3]
      exact b1
end
end Dx
end S_DxBZ
section S_DxCA
set_option Elab.async false
set_option linter.all false
set_option maxRecDepth 100000
set_option maxHeartbeats 2000000
namespace Dx
open PySem L2
open PyProof.Rows hiding St
open GenW
/-- made, in the consumer's state -/
theorem GMadeD.slp {X : Cx} {cm : CM} {k : Nat} {pins : List (Addr × Obj)} {σ : L2.St} {sc s' : Shared} {S H : Hp} {items : List D} {u : Value} (h : GMadeD X cm k sc S H items u s') (I : Inv X pins σ H sc) :
    ∃ C a g go gs pg, u = .ref a ∧ Slp X cm C a g k go ∧ Young X pins C.n0 ∧ s'.heap.IsGen a g ∧ Inv X (pins ++ pg) σ H s' ∧ SlpAt C a g go items gs pg [] S s' ∧ sc.gens.size = g ∧ isSus gs = false := by
  obtain ⟨C, a, c, pg, go, rfl, ⟨h1, h2, h3, h4, h5, h6, h7⟩, hn, hos, hroom, hpn, hgen, hgen2, hgens, hos2, hkp, hpg, hgo, hasl⟩ := h.ex
  have hb : AllBare s'.gens := by rw [hgens]; exact I.bare.push rfl
  have I1 : Inv X pins σ H s' := I.call' (ch := []) hos2 (Un.kept hkp) (I.hok.kept hkp) hb fun b z => by simp at z
  have yg : Young X pins C.n0 := by rw [hn]; exact Young.of I
  have sz : C.n0 ≤ s'.heap.objs.size := by
    have := (hpg _ hgo)
    exact Nat.le_trans this.2.1 (Nat.le_of_lt this.2.2.1)
  refine ⟨C, a, sc.gens.size, go, .fresh c, pg, rfl, ⟨h1, h2, h3, h4, h5, h6, h7, hroom, hgen2, hpn⟩, yg, hgen, ?_, ⟨hasl, fun q hq => (hpg q hq).2.1, hgo, by rw [hgens]; exact Array.getElem?_push_size .., trivial, fun q hq => (by cases hq), sz, hos2.trans hos.symm⟩, rfl, rfl⟩
  refine I1.pins_of fun q hq => ?_
  rcases List.mem_append.mp hq with hq | hq
  · exact I1.pin q (List.mem_append_right _ hq)
  · obtain ⟨z1, z2, z3, z4⟩ := hpg q hq
    rw [hn] at z2
    refine ⟨z1, I.hok.fresh z2, Nat.ne_of_gt (Nat.lt_of_lt_of_le I.lt z2), I.nofs z2, z4⟩
def okG (its : Rho → Res (List D)) : Rho → Res (List D) := fun r => match its r with
  | .ok ds => .ok ds
  | _ => .bad
/-- it stands still as long as it is not woken -/
theorem SlpAt.keep {C : GCt} {a : Addr} {g : Nat} {go : Obj} {ds : List D} {gs : GenState} {pg : List (Addr × Obj)} {gl : List (Nat × GenState)} {S1 : Hp} {s s' : Shared} (h : SlpAt C a g go ds gs pg gl S1 s) (hs : isSus gs = true) (k : KeptG (fun _ => False) s s') (hsz : GoneN s s') (hos : s'.os = s.os) : SlpAt C a g go ds gs pg gl S1 s' :=
  ⟨h.asl, h.hpg, h.hgo, k g gs (fun z => z) h.hgs hs, h.hng, fun q hq => let ⟨h1, h2, h3, h4⟩ := h.hgl q hq; ⟨k q.1 q.2 (fun z => z) h1 h2, h2, h3, h4⟩, Nat.le_trans h.hsz hsz.1, hos.trans h.hos⟩
section
variable {X : Cx} {c : Cf} {L G G' : List Ow} {tg : Expr} {pos : Pos} {k : Nat}
theorem ds_forG {iter : Expr} {body : List Stmt} {its : Rho → Res (List D)} {ks : List Nat} {t : D → Rho → Res Rho} {F : Rho → SR} (hg : Gok c G) (hp : PassesOwn (model X.prog X.w) X.A X.env X.xe) (xg : XeG X) (hr : Room (k + 1) X.A) (hi : GEx X c G k iter its) (ht : PG X tg (gD c G G' ks t)) (hb : PSs X body (sD c G G' G F))
    (hK : c.K = X.K := by rfl) (hs : ∀ x, foldedSetIterable iter X.env x = pure x := by intro _; rfl) : PS X (.For tg iter body [] pos) (sD c L G G (forF (okG its) t F)) := by
  refine ⟨fun pins s σ H E I ⟨S0, H0, S, r, ok, p⟩ => ?_⟩
  unfold forF okG at p
  cases hits : its r with
  | err n ns vs => rw [hits] at p; exact p.elim
  | bad => rw [hits] at p; exact p.elim
  | ok items =>
    rw [hits] at p
    have p : PostS c S0 H0 L G (loopF t F items r) E := p
    refine wpAny_For (thn (hi.run pins s σ S0 H0 S H r items I ok hits) fun v s1 ⟨S1, H1, sc, _, fw, I1, made⟩ => ?_) hs
    obtain ⟨C, a, g, go, gs, pg, rfl, sl, yg, hgen, I2, sa, _, _⟩ := made.slp I1
    refine wpAny_pyIter_gen hgen ?_
    refine codeAny_forLoop_any (fun n s' => ∃ ds r' gs pg gl S1 σ' S' H', n = ds.length ∧ Inv X (pins ++ pg) σ' H' s' ∧ EnvOk c S0 H0 G S' H' σ' r' ∧ PostS c S0 H0 L G (loopF t F ds r') E ∧ Ex S1 S' ∧ SlpAt C a g go ds gs pg gl S1 s') ?_ items.length
      ⟨items, r, gs, pg, [], S1, σ, S1, H1, rfl, I2, ok.go fw, p, Ex.refl, sa⟩
    rintro n s3 ⟨ds, r3, gs3, pg3, gl3, Sx, σ3, S3, H3, rfl, I3, e3, p3, ex3, sa3⟩
    refine wpAny_passesOwn hp (thn (next_run hr I3.ok.frames sl yg I3 sa3 ex3 e3.ex) fun rr s4 ⟨_, _, _, q⟩ => ?_)
    cases ds with
    | nil =>
      obtain ⟨hr4, S4, H4, f4, I4⟩ := q
      subst hr4
      exact wpAny_execs_nil ⟨σ3, H4, I4, p3 σ3 S4 H4 (e3.go f4)⟩
    | cons d ds =>
      obtain ⟨v, x, S4, H4, gs4, pg4, gl4, hr4, rv, hx, f4, I4, hsu, _, sa4⟩ := q
      subst hr4
      have e4 := e3.go f4
      have hgo4 := (I4.pin (a, go) (List.mem_append_right _ (List.mem_append_right _ sa4.hgo))).1
      obtain ⟨og, nm, qn, q1, q2, q3, _⟩ := sl.gen _ hgo4
      refine go_of q1 q2 q3 (by decide) ?_
      have p4 : PostS c S0 H0 L G (match t d r3 with
        | .ok r1 => (match F r1 with
          | .nx r2 => loopF t F ds r2
          | .ct r2 => loopF t F ds r2
          | .bk r2 => .nx r2
          | o => o)
        | _ => .bad) E := p3
      refine wpAny_passesOwn hp ?_
      cases htt : t d r3 with
      | err _ _ _ => rw [htt] at p4; exact p4.elim
      | bad => rw [htt] at p4; exact p4.elim
      | ok r1 =>
        rw [htt] at p4
        dsimp only at p4
        refine thn (pieceX xg I4.bare (ht.run (pins ++ pg4) _ σ3 H4 x v (fun σ5 H5 => H4 = H5 ∧ EnvOk c S0 H0 G' S4 H4 σ5 r1) (I4.deadG _) rv ⟨S0, H0, S4, r3, d, e4, by rw [hK, ← sl.K]; exact hx, ?_⟩)) fun _ s5 q5 => ?_
        · rw [htt]
          exact fun σ5 z5 e5 => ⟨rfl, e5⟩
        obtain ⟨s5', e5', d5, ⟨σ5, H5, I5, rfl, e5⟩, k5, _, nb5⟩ := q5
        have I5 : Inv X (pins ++ pg4) σ5 H4 s5 := by rw [e5']; exact I5.restG d5 I4.bare
        have sa5 := sa4.keep hsu k5 nb5 (I5.os.trans I4.os.symm)
        refine wpAny_passesOwn hp ?_
        refine thn (pieceX xg I5.bare (hb.run (pins ++ pg4) _ σ5 H4 { nx := fun σ' H' => ∃ S' r2, (F r1 = .nx r2) ∧ EnvOk c S4 H0 G S' H' σ' r2, ct := fun σ' H' => ∃ S' r2, (F r1 = .ct r2) ∧ EnvOk c S4 H0 G S' H' σ' r2, bk := E.nx, rt := E.rt } (I5.deadG _) ⟨S4, H0, S4, r1, e5.rebase, ?_⟩)) fun fl s6 q6 => ?_
        · cases hF : F r1 with
          | nx r2 => exact fun σ' S' H' e' => ⟨S', r2, rfl, e'⟩
          | ct r2 => exact fun σ' S' H' e' => ⟨S', r2, rfl, e'⟩
          | bk r2 => rw [hF] at p4; exact fun σ' S' H' e' => p4 σ' S' H' (e'.unbase e5.fwd)
          | rt dd => rw [hF] at p4; exact PostS.rebase (c := c) (o := .rt dd) (E := E) e5.fwd p4
          | er r2 n ns vs => rw [hF] at p4; exact PostS.rebase (c := c) (o := .er r2 n ns vs) (E := E) e5.fwd p4
          | bad => rw [hF] at p4; exact p4.elim
        obtain ⟨s6', e6', d6, q6, k6, _, nb6⟩ := q6
        have again : ∀ {σ7 : L2.St} {S7 H7 : Hp} {r2 : Rho}, Inv X (pins ++ pg4) σ7 H7 s6' → EnvOk c S4 H0 G S7 H7 σ7 r2 → PostS c S0 H0 L G (loopF t F ds r2) E → ∃ m, m < (d :: ds).length ∧ ∃ ds r' gs pg gl S1 σ' S' H', m = ds.length ∧ Inv X (pins ++ pg) σ' H' s6 ∧ EnvOk c S0 H0 G S' H' σ' r' ∧ PostS c S0 H0 L G (loopF t F ds r') E ∧ Ex S1 S' ∧ SlpAt C a g go ds gs pg gl S1 s6 := fun {σ7 S7 H7 r2} I7 e7 p7 => by
          have I8 : Inv X (pins ++ pg4) σ7 H7 s6 := by rw [e6']; exact I7.restG d6 I5.bare
          exact ⟨ds.length, Nat.lt_succ_self _, ds, r2, gs4, pg4, gl4, S4, σ7, S7, H7, rfl, I8, e7.unbase e5.fwd, p7, e7.fwd.s, sa5.keep hsu k6 nb6 (I8.os.trans I5.os.symm)⟩
        cases fl with
        | next =>
          obtain ⟨σ7, H7, I7, S7, r2, hF, e7⟩ := q6
          rw [hF] at p4
          exact again I7 e7 p4
        | cont =>
          obtain ⟨σ7, H7, I7, S7, r2, hF, e7⟩ := q6
          rw [hF] at p4
          exact again I7 e7 p4
        | brk =>
          obtain ⟨σ7, H7, I7, q7⟩ := q6
          have I8 : Inv X (pins ++ pg4) σ7 H7 s6 := by rw [e6']; exact I7.restG d6 I5.bare
          exact ⟨σ7, H7, I8.unpinned, q7⟩
        | ret u =>
          obtain ⟨x7, σ7, H7, I7, r7, q7⟩ := q6
          have I8 : Inv X (pins ++ pg4) σ7 H7 s6 := by rw [e6']; exact I7.restG d6 I5.bare
          exact ⟨x7, σ7, H7, I8.unpinned, r7, q7⟩
end
end Dx
end S_DxCA
section S_DxCB
set_option Elab.async false
set_option linter.all false
set_option maxRecDepth 100000
set_option maxHeartbeats 2000000
namespace Dx
open PySem L2
open PyProof.Rows hiding St
open GenW
section
variable {prog : Program} {w : World} {A : Around} {Φ : End → Shared → Prop} {s : Shared} {c : Code} {fs : List Frame} {env : Env} {K : Flow → Sem PySem.Fin} {J : Value → Sem PySem.Fin} {gd : Bool → Bool} {lv : List Value → List Value} {Xe : Value → Shared → Prop}
theorem gr_bindw {M : Model} {α β : Type} {m : Sem α} {f : α → Sem β} {K : β → Sem PySem.Fin} (h : wpAny M (A.over c fs) m (fun a z => GRun M A Φ c ((f a).wrap K J gd lv) fs z) (fun x z => GRun M A Φ c (J x) fs z) s) : GRun M A Φ c ((m >>= f).wrap K J gd lv) fs s := by
  rw [Sem.bind_eq_wrap', Sem.wrap_wrap]
  exact gr_wrap h
theorem gr_for {tg iter : Expr} {body : List Stmt} {pos : Pos} (hx : ∀ x z t, Xe x z → GRun (model prog w) A Φ c t fs z) (gdf : gd false = false)
    (h : wpAny (model prog w) (A.over c fs) (eval iter env) (fun v z => wpAny (model prog w) (A.over c fs) (pyIter v) (fun it z => ∀ k l p kp, (∀ f, k (.ok f) = K f) → GRun (model prog w) A Φ (.forLoop tg it body [] env) ((model prog w).den (.forLoop tg it body [] env)) (.ret k none false l c p kp :: fs) z) Xe z) Xe s)
    (hs : ∀ x, foldedSetIterable iter env x = pure x := by intro _; rfl) : GRun (model prog w) A Φ c ((exec (.For tg iter body [] pos) env).wrap K J gd lv) fs s := by
  rw [exec_For]
  refine gr_bindw (wpAny_standAt ?_)
  refine gr_bindw (wpAny_mono h (fun v z q => ?_) fun x z q => hx x z _ q)
  refine gr_bindw (wpAny_of_eq (hs v) ?_)
  refine gr_bindw (wpAny_standAt ?_)
  refine gr_bindw (wpAny_holding (wpAny_mono q (fun it z q => ?_) fun x z q => hx x z _ q))
  refine gr_call fun p => ?_
  rw [gdf]
  exact q _ _ p _ fun f => rfl
theorem gr_block0 (h : GRun (model prog w) A Φ (.block [] env) (.pure (.done .next)) fs s) : GRun (model prog w) A Φ (.block [] env) ((model prog w).den (.block [] env)) fs s := h
theorem gr_forLoop {tg : Expr} {it : Value} {body : List Stmt} (hx : ∀ x z t, Xe x z → GRun (model prog w) A Φ (.forLoop tg it body [] env) t fs z)
    (h : wpAny (model prog w) (A.over (.forLoop tg it body [] env) fs) (pyNext it) (fun r z => match r with
      | none => GRun (model prog w) A Φ (.block [] env) (.pure (.done .next)) fs z
      | some v => wpAny (model prog w) (A.over (.forLoop tg it body [] env) fs) (letOwnedTupleGo tg it v) (fun _ z => wpAny (model prog w) (A.over (.forLoop tg it body [] env) fs) (assign tg env v) (fun _ z =>
          ∀ J' : Value → Sem PySem.Fin, GRun (model prog w) A Φ (.forLoop tg it body [] env) ((execs body env).wrap (turnK (.forLoop tg it body [] env)) J' id id) fs z) Xe z) Xe z) Xe s) :
    GRun (model prog w) A Φ (.forLoop tg it body [] env) ((model prog w).den (.forLoop tg it body [] env)) fs s := by
  show GRun _ A Φ _ ((forTurn tg it body [] env).onRaise _) fs s
  simp only [forTurn]
  rw [Sem.onRaise_eq_wrap]
  refine gr_bindw (wpAny_standAt ?_)
  refine gr_bindw (wpAny_onRaise (wpAny_mono h (fun r z q => ?_) fun x z q => wpAny_standAt (hx x z _ q)))
  cases r with
  | none => exact gr_again rfl (gr_block0 q)
  | some v =>
    refine gr_bindw (wpAny_mono q (fun _ z q => ?_) fun x z q => hx x z _ q)
    refine gr_bindw (wpAny_mono q (fun _ z q => ?_) fun x z q => hx x z _ q)
    rw [Sem.bind_eq_wrap', Sem.wrap_wrap]
    rw [Sem.wrap_congr (execs body env) _ _ (K' := turnK (.forLoop tg it body [] env)) (fun f => by cases f <;> rfl) (fun _ => rfl)]
    exact q _
end
def loopG (t : D → Rho → Res Rho) (F : Rho → List D × SR) : List D → Rho → List D × SR
  | [], r => ([], .nx r)
  | d :: ds, r => match t d r with
    | .ok r1 => (match F r1 with
      | (ys, .nx r2) => (ys ++ (loopG t F ds r2).1, (loopG t F ds r2).2)
      | (ys, .ct r2) => (ys ++ (loopG t F ds r2).1, (loopG t F ds r2).2)
      | (ys, .bk r2) => (ys, .nx r2)
      | x => x)
    | _ => ([], .bad)
def forGG (its : Rho → Res (List D)) (t : D → Rho → Res Rho) (F : Rho → List D × SR) : Rho → List D × SR := fun r => liftG (its r) fun ds => loopG t F ds r
theorem Aft.unbase {C : GCt} {b : GB} {S4 H4 S1 H1 : Hp} {z : Shared} (f : Fwd b.S b.H S4 H4) (h : Aft C { b with S := S4 } S1 H1 z) : Aft C b S1 H1 z := ⟨f.unbase h.fwd, h.un, h.hok, h.os, h.bare, h.gsz, h.pn⟩
theorem Std.unbase {C : GCt} {b : GB} {S4 H4 : Hp} (f : Fwd b.S b.H S4 H4) : ∀ {ds : List D} {e : End} {z : Shared}, Std C ds { b with S := S4 } e z → Std C ds b e z
  | [], .ret r, z, ⟨h, S1, H1, a⟩ => ⟨h, S1, H1, a.unbase f⟩
  | [], .susp _ _ _ _ _ _ _, z, h => h.elim
  | d :: ds, .ret r, z, h => h.elim
  | d :: ds, .susp v gd l k c p fs, z, ⟨h1, h2, x, S1, H1, pg, gl, h3, h4, a, h5, h6, h7, h8⟩ => ⟨h1, h2, x, S1, H1, pg, gl, h3, h4, a.unbase f, h5, h6, h7, h8⟩
section
variable {C : GCt} {L G G' : List Ow} {b : GB}
theorem GCt.Ok.S {S4 : Hp} (h : C.Ok b) : C.Ok { b with S := S4 } := ⟨h.room, h.fr, h.sz, h.os⟩
end
end Dx
end S_DxCB
section S_DxCC
set_option Elab.async false
set_option linter.all false
set_option maxRecDepth 100000
set_option maxHeartbeats 2000000
namespace Dx
open PySem L2
open PyProof.Rows hiding St
open GenW
section
variable {X : Cx} {pins : List (Addr × Obj)} {k : Nat}
/-- the list at P is filled -/
theorem run_fill {cm : CM} {C : GCt} {a : Addr} {g : Nat} {go : Obj} {A' : Around} {R : Result → Shared → Prop} {P : Addr} {Sc Hc : Hp} {σ : L2.St} {all : List D} (hr : Room (k + 2) A') (hfr : A'.frames = some X.stack) (sl : Slp X cm C a g k go) (yg : Young X pins C.n0) (hall : all.length ≤ sizeLine) (hP : Hc P = none) (hPa : P ≠ a)
    (hend : ∀ s S H us, Inv X pins σ H s → Fwd Sc Hc S H → S P = none → H P = some (.lst us) → RpA C.K cm S us all → R (.ok (.ret .none)) s) :
    ∀ (ds : List D) (s : Shared) (S H S1 : Hp) (gs : GenState) (pg : List (Addr × Obj)) (gl : List (Nat × GenState)) (us : List V) (out : List D), Inv X (pins ++ pg) σ H s → SlpAt C a g go ds gs pg gl S1 s → Ex S1 S → Fwd Sc Hc S H → S P = none → H P = some (.lst us) → RpA C.K cm S us out → out ++ ds = all →
      codeAny (model X.prog X.w) A' (.builtin "list.extend.loop" ⟨[.ref P, .ref a, .none], []⟩) R s := by
  intro ds
  induction ds with
  | nil =>
    intro s S H S1 gs pg gl us out I sa e1 fw hS hH hu ho
    refine codeAny_builtin F.entry_extend_loop ?_
    rw [Around.under_plainId F.plain_extend_loop _]
    show wpAny _ A'.in1 (pyNext (.ref a) >>= _) _ _ s
    refine wpAny_bind (wpAny_mono (next_run hr.in1 hfr sl yg I sa e1 fw.sub) (fun r z ⟨_, _, _, q⟩ => ?_) fun _ _ q => q)
    obtain ⟨hn, S2, H2, f2, I2⟩ := q
    subst hn
    rw [List.append_nil] at ho
    subst ho
    have nS : S2 P = none := by
      cases q : S2 P with
      | none => rfl
      | some u => obtain ⟨_, z⟩ := (f2.new P u q hS).not hH; cases z
    exact wpAny_pure (hend z S2 H2 us I2 (fw.trans f2) nS (f2.h _ _ hH) (hu.mono f2.s))
  | cons d ds ih =>
    intro s S H S1 gs pg gl us out I sa e1 fw hS hH hu ho
    refine codeAny_builtin F.entry_extend_loop ?_
    rw [Around.under_plainId F.plain_extend_loop _]
    show wpAny _ A'.in1 (pyNext (.ref a) >>= _) _ _ s
    refine wpAny_bind (wpAny_mono (next_run hr.in1 hfr sl yg I sa e1 fw.sub) (fun r z ⟨_, _, _, q⟩ => ?_) fun _ _ q => q)
    obtain ⟨v, x, S4, H4, gs4, pg4, gl4, hr4, rv, hx, f4, I4, hsu, _, sa4⟩ := q
    subst hr4
    have nS : S4 P = none := by
      cases q : S4 P with
      | none => rfl
      | some u => obtain ⟨_, z⟩ := (f4.new P u q hS).not hH; cases z
    have hH4 := f4.h _ _ hH
    have hu4 := hu.mono f4.s
    obtain ⟨hle, its, n, rits, hget⟩ := I4.hok P _ hH4
    have hlen : us.length < sizeLine := by
      have h1 := hu.length
      have h2 : (out ++ d :: ds).length ≤ sizeLine := by rw [ho]; exact hall
      rw [List.length_append, List.length_cons] at h2
      omega
    have hil : its.toArray.size = us.length := by
      rw [List.size_toArray]
      exact rits.length.symm
    show wpAny _ A'.in1 (updateSeq P (·.push v) >>= _) _ _ _
    refine wpAny_bind ?_
    refine wpAny_updateSeq hget rfl (wpAny_pure ⟨plainId_quiet F.plain_extend_loop _, ?_⟩) (by rw [hil]; exact Nat.le_of_lt hlen) (by show (its.toArray.push v).size ≤ sizeLine + 1; rw [Array.size_push, hil]; omega)
    have hself := Heap.get?_update_self (Obj.mapSeq (·.push v)) hget rfl
    have oth : ∀ b u, b ≠ P → z.heap.get? b = some u → (z.heap.update P (Obj.mapSeq (·.push v))).get? b = some u := fun b u hb e => (Heap.get?_update_other _ _ (Ne.symm hb)).trans e
    have mu : Mut (H4 P) := by rw [hH4]; trivial
    have I5 : Inv X (pins ++ pg4) σ (upd H4 P (.lst (us ++ [x]))) { z with heap := z.heap.update P (Obj.mapSeq (·.push v)) } := by
      refine I4.write (t' := z.toks) mu (.inl rfl) oth ⟨_, hself⟩ ?_
      refine ⟨by rw [List.length_append, List.length_singleton]; omega, its ++ [v], (if (its.toArray.push v).size == its.toArray.size then n else n + 1), rits.append (.cons rv .nil), ?_⟩
      rw [hself]
      have e : its.toArray.push v = (its ++ [v]).toArray := by simp
      rw [← e]
      rfl
    have hne : P ≠ a := hPa
    refine ih _ S4 _ S4 gs4 pg4 gl4 (us ++ [x]) (out ++ [d]) I5 ⟨sa4.asl, sa4.hpg, sa4.hgo, sa4.hgs, sa4.hng, sa4.hgl, ?_, sa4.hos⟩ Ex.refl ((fw.trans f4).put hP nS (Tk.at hH4 .lst)) nS upd_same (hu4.app (.one hx)) (by rw [List.append_assoc]; exact ho)
    show C.n0 ≤ (z.heap.update P _).objs.size
    rw [Heap.size_update]
    exact sa4.hsz
/-- list of a generator that has just been made -/
theorem call_listGD {cm : CM} {σ : L2.St} {sc s : Shared} {S H : Hp} {items : List D} {u : Value} {Q : Value → Shared → Prop} {E : Value → Shared → Prop} {A' : Around} (hr : Room (k + 5) A') (hfr : A'.frames = some X.stack) (I : Inv X pins σ H sc) (ex : Ex S H) (made : GMadeD X cm k sc S H items u s) (hlen : items.length ≤ sizeLine)
    (hQ : ∀ z S' H' P us, Inv X pins σ H' z → Fwd S H S' H' → H P = none → S' P = none → H' P = some (.lst us) → RpA X.K cm S' us items → Q (.ref P) z) : wpAny (model X.prog X.w) A' (call (.type "list") [u]) Q E s := by
  obtain ⟨C, a, g, go, gs, pg, rfl, sl, yg, hgen, I1, sa, _, _⟩ := made.slp I
  have ha2 : a < s.heap.objs.size := Heap.lt_size (I1.pin (a, go) (List.mem_append_right _ (List.mem_append_right _ sa.hgo))).1
  let P := s.heap.objs.size
  have hPa : P ≠ a := Nat.ne_of_gt ha2
  have hHP : H P = none := I1.hok.fresh (Nat.le_refl _)
  let o0 : Obj := { cls := .type "list", data := .seq #[] }
  refine callType_codes (Q₁ := fun obj z => obj = .ref P ∧ z = { s with heap := s.heap.push o0 }) F.called_list (F.typeCall_list_1 _) F.entry_list_init ?_ fun obj z hz => ?_
  · exact code_list_new _ ⟨rfl, rfl⟩
  obtain ⟨rfl, rfl⟩ := hz
  have g0 : (s.heap.push o0).get? P = some o0 := Heap.get?_push_size _ rfl
  refine ⟨⟨_, g0, rfl⟩, F.args_list_init_2 _ _, ?_⟩
  show wpAny (model X.prog X.w) A'.in1.in1 (Builtin.List.listItems (.ref P) >>= fun old => Builtin.List.listUpdate (.ref P) (fun _ => #[]) >>= fun _ => letGo old.toList.reverse >>= fun _ => Builtin.List.listExtendWith (.ref P) (.ref a) .none) _ _ _
  refine wpAny_bind ?_
  unfold Builtin.List.listItems
  refine wpAny_bind (wpAny_seqItems g0 rfl (wpAny_pure ?_))
  refine wpAny_bind (m := updateSeq P (fun _ => #[])) (wpAny_updateSeq g0 rfl ?_)
  have g1 := Heap.get?_update_self (Obj.mapSeq (fun _ => (#[] : Array Value))) g0 rfl
  refine wpAny_bind (m := letGo (#[] : Array Value).toList.reverse) (wpAny_letGo ?_)
  unfold Builtin.List.listExtendWith
  have step : ∀ (h : Heap) (f : Obj → Obj), (∀ b o, s.heap.get? b = some o → h.get? b = some o) → ∀ b o, s.heap.get? b = some o → (h.update P f).get? b = some o := fun h f q b o e =>
    (Heap.get?_update_other h f (Ne.symm (Nat.ne_of_lt (Heap.lt_size e)))).trans (q b o e)
  have kp0 : ∀ b o, s.heap.get? b = some o → (s.heap.push o0).get? b = some o := fun b o e => Heap.get?_push_of_some _ e
  have kp1 := step _ (Obj.mapSeq (fun _ => (#[] : Array Value))) kp0
  have isg : ∀ {h : Heap}, (∀ b o, s.heap.get? b = some o → h.get? b = some o) → h.IsGen a g := fun q => hgen.keeps q
  refine wpAny_bind (wpAny_typeOf (Heap.IsGen.typeIs (s := { s with heap := _ }) (isg kp1)) ?_)
  have c1 : Builtin.List.listSameRef (.ref P) (.ref a) = false := by simp [Builtin.List.listSameRef, hPa]
  have c2 : (Value.type "generator" == Value.type "list") = false := by decide
  have c3 : (Value.type "generator" == Value.type "tuple") = false := by decide
  simp only [c1, c2, c3, Bool.or_false, Bool.false_eq_true, if_false]
  refine wpAny_bind (wpAny_pyIter_gen (s := { s with heap := _ }) (isg kp1) ?_)
  refine wpAny_bind (wpAny_holding ?_)
  unfold Builtin.List.listLengthHint
  refine wpAny_bind (wpAny_specialOf (Heap.IsGen.typeIs (s := { s with heap := _ }) (isg kp1)) F.gen_no_len ?_)
  refine wpAny_bind (m := specialOf (Value.ref a) (Str.ofString "__length_hint__")) ?_
  refine wpAny_specialOf (Heap.IsGen.typeIs (s := { s with heap := _ }) (isg kp1)) F.gen_no_hint ?_
  refine wpAny_pure ?_
  refine wpAny_bind (m := rule "list.extend.makes-room") (wpAny_rule ?_)
  refine wpAny_bind (m := Builtin.List.listTouch (.ref P)) ?_
  show wpAny (model X.prog X.w) A'.in1.in1 (updateSeq P (·.push .none) >>= fun _ => updateSeq P (·.pop)) _ _ _
  refine wpAny_bind (wpAny_updateSeq g1 rfl ?_)
  have g2 := Heap.get?_update_self (Obj.mapSeq (·.push Value.none)) g1 rfl
  refine wpAny_updateSeq (hz := by seq_fits) g2 rfl ?_
  have g3 := Heap.get?_update_self (Obj.mapSeq (·.pop)) g2 rfl
  have kp3 := step _ (Obj.mapSeq (·.pop)) (step _ (Obj.mapSeq (·.push Value.none)) kp1)
  refine wpAny_pure ⟨plainId_quiet F.plain_extend_loop _, ?_⟩
  have I2 : Inv X (pins ++ pg) σ (upd H P (.lst [])) { s with heap := (((s.heap.push o0).update P (Obj.mapSeq (fun _ => (#[] : Array Value)))).update P (Obj.mapSeq (·.push Value.none))).update P (Obj.mapSeq (·.pop)) } := by
    refine I1.laid (t' := s.toks) kp3 (Nat.le_refl _) ?_
    refine ⟨Nat.zero_le _, [], 2, .nil, ?_⟩
    rw [g3]
    rfl
  have hr2 : Room (k + 2) A'.in1 := ⟨hr.hd, by have := hr.dp; show A'.depth + _ + _ < _; omega, by have := hr.un; show A'.units + 1 + _ + _ < _; omega⟩
  refine run_fill (X := X) (pins := pins) (k := k) (cm := cm) (C := C) (a := a) (g := g) (go := go) (A' := A'.in1) (P := P) (Sc := S) (Hc := H) (σ := σ) (all := items) hr2 hfr sl yg hlen hHP hPa (fun z S' H' us I' f' h1 h2 h3 => ⟨rfl, hQ z S' H' P us I' f' hHP h1 h2 (by rw [← sl.K]; exact h3)⟩)
    items _ S _ S gs pg [] [] [] I2 ⟨sa.asl, sa.hpg, sa.hgo, sa.hgs, sa.hng, fun q hq => (by cases hq), ?_, sa.hos⟩ Ex.refl (Fwd.heap ex hHP) (ex.nn hHP) upd_same .nil rfl
  have := sa.hsz
  show C.n0 ≤ (Heap.update _ _ _).objs.size
  rw [Heap.size_update, Heap.size_update, Heap.size_update, Heap.size_push]
  omega
end
section
variable {X : Cx} {c : Cf} {G : List Ow} {k : Nat} {pos p : Pos}
noncomputable def dListG (its : Rho → Res (List D)) : Rho → Res D := fun r => match its r with
  | .ok ds => guard (ds.length ≤ sizeLine) (.ok (.lst ds))
  | _ => .bad
/-- list(e), e a generator -/
theorem de_listG {e : Expr} {its : Rho → Res (List D)} {nm : Str} (hr : Room (k + 5) X.A) (h : GEx X c G k e its) (hg : Gl X nm) (hmg : X.mg nm = none) (hv : bootBuiltins nm = some (.type "list")) (hK : c.K = X.K := by rfl) (hnm : nm ≠ "__name__" := by decide) (hdb : (nm == ("__debug__" : Str)) = false := by decide)
    (he : starEach [e] X.env = (false, eval e X.env) :: starEach [] X.env := by rfl) : PE X (.Call (.Name nm p) [e] [] pos) (tO c G (dListG its)) := by
  refine ⟨fun pins s σ H Q I ⟨S0, H0, S, r, ok, q⟩ => ?_⟩
  unfold dListG at q
  cases hits : its r with
  | err n ns vs => rw [hits] at q; exact q.elim
  | bad => rw [hits] at q; exact q.elim
  | ok items =>
    rw [hits] at q
    obtain ⟨hlen, q⟩ := q.gd
    refine wpAny_Call_Name_kw (ld_blt I hg hmg hv ?_ hnm hdb)
    refine PyProof.Rows.callWith_type1 ?_ he rfl
    rw [he]
    show wpAny (model X.prog X.w) X.A (spliced ((false, eval e X.env) :: backTo pos (starEach ([] : List Expr) X.env))) _ _ s
    refine Calls.spliced_cons (thn (h.run pins s σ S0 H0 S H r items I ok hits) fun u s1 ⟨S1, H1, sc, _, f1, I1, made⟩ => ?_)
    refine Calls.spliced_nil ?_
    refine call_listGD hr I1.ok.frames I1 f1.sub made hlen fun z S' H' P us I' f' h0 h1 h2 h3 => ?_
    exact ⟨.ref P, H', I', rfl, q S' H' (f1.trans f') _ ⟨P, .lst us, rfl, f1.h.nn h0, h1, h2, .lst (by rw [hK]; exact h3)⟩⟩
end
end Dx
end S_DxCC
section S_DxCD
set_option Elab.async false
set_option linter.all false
set_option maxRecDepth 100000
set_option maxHeartbeats 2000000
namespace Dx
open PySem L2
open PyProof.Rows hiding St
open GenW
def leafG (F : Rho → SR) : Rho → List D × SR := fun r => ([], F r)
def nilG : Rho → List D × SR := fun r => ([], .nx r)
theorem gl_leaf {C : GCt} {L G G' : List Ow} {st : Stmt} {F : Rho → SR} (h : ∀ b, C.Ok b → PS (C.X b) st (sD C.cf L G G' F)) : GStm C L G G' st (leafG F) := gs_leaf h
theorem gl_nil {C : GCt} {L G : List Ow} : GStms C L G G [] nilG := gss_nil
theorem GCt.Ok.rx {C : GCt} {b : GB} {k : Nat} (h : C.Ok b) (hk : C.k = k) : Room k (C.X b).A := by
  rw [h.A, ← hk]
  exact h.room
def voB : Ow → Bool
  | .v => true
  | .o => true
  | _ => false
theorem hvo {G : List Ow} (h : G.all voB = true) : ∀ i, kd G i = .v ∨ kd G i = .o := fun i => by
  unfold kd
  rw [List.getD_eq_getElem?_getD]
  cases q : G[i]? with
  | none => exact .inl rfl
  | some k =>
    have := List.all_eq_true.mp h k (List.mem_of_getElem? q)
    cases k with
    | v => exact .inl rfl
    | o => exact .inr rfl
    | _ => cases this
theorem dl_nil : ∀ r ds, dNil r = .ok ds → ds.length = 0 := fun r ds h => by cases h; rfl
theorem dl_cons {f : Rho → Res D} {fs : Rho → Res (List D)} {n : Nat} (h : ∀ r ds, fs r = .ok ds → ds.length = n) : ∀ r ds, dCons f fs r = .ok ds → ds.length = n + 1 := fun r ds e => by
  have e : (f r).bind (fun x => (fs r).bind fun xs => .ok (x :: xs)) = .ok ds := e
  cases h1 : f r with
  | err _ _ _ => rw [h1] at e; cases e
  | bad => rw [h1] at e; cases e
  | ok x =>
    rw [h1] at e
    cases h2 : fs r with
    | err _ _ _ => rw [h2] at e; cases e
    | bad => rw [h2] at e; cases e
    | ok xs =>
      rw [h2] at e
      cases e
      rw [List.length_cons, h r xs h2]
abbrev gctOf (P : Program) (w : World) (K : PySem.W.Frag) (mg : Str → Option Value) (base : Heap) (cm : CM) (N : List Str) (qual : Str) (scope : Scope) (f : Addr) (k : Nat) (cd : Value) (outer : List Env) (n0 : Nat) (os : OsState) (pn : List (Addr × Obj)) : GCt :=
  { P := P, w := w, K := K, mg := mg, base := base, cm := cm, N := N, qual := qual, scope := scope, f := f, cd := cd, outer := outer, n0 := n0, os := os, k := k, pn := pn }
theorem dokGen {P : Program} {w : World} {K : PySem.W.Frag} {mg : Str → Option Value} {base : Heap} {cm : CM} {x qual : Str} {st : Stmt} {f : Addr} {fd : FuncData} {N ps : List Str} {k : Nat} {G' : List Ow} {Fb : Rho → List D × SR} (F : Fun K x qual st f fd) (S : GScope N ps (defScope st)) (hsc : NoCell (defScope st)) (hn : ps.length ≤ N.length)
    (hb : ∀ cd outer n0 os pn, (∀ q ∈ pn, n0 ≤ q.1) → GStms (gctOf P w K mg base cm N qual (defScope st) f k cd outer n0 os pn) [] (G0 (List.replicate ps.length false) N.length) G' (defBody st) Fb) : GFnD P w K mg base cm (k + 1) f fd ps (runGF N.length Fb) :=
  dokG F S hsc hn fun C h1 h2 h3 h4 h5 h6 h7 h8 h9 h10 h11 h12 => by
    obtain ⟨P', w', K', mg', base', cm', N', qual', scope', f', cd', outer', n0', os', k', pn'⟩ := C
    dsimp only at h1 h2 h3 h4 h5 h6 h7 h8 h9 h10 h11
    subst h1 h2 h3 h4 h5 h6 h7 h8 h9 h10 h11
    exact hb cd' outer' n0' os' pn' h12
theorem takesG {P : Program} {w : World} {K : PySem.W.Frag} {mg : Str → Option Value} {base : Heap} {N : List Str} {qual : Str} {scope : Scope} {f : Addr} {cd : Value} {A : Around} {outer : List Env} {s : Shared} {H : Hp} {cm : CM} {rm : Bool} {pn : List (Addr × Obj)} : L2N.Takes (gcxOf P w K mg base N qual scope f cd A outer s H noX pn) (cfE K cm rm noX).W := by
  rintro _ _ ⟨_, _, _, _, _, _, _, _, _, _, _, _, _, _, _, _, z⟩
  exact z.elim
section
variable {X : Cx} {c : Cf} {L G G' : List Ow} {tg : Expr} {pos p : Pos} {k : Nat}
theorem ds_forGen {iter : Expr} {body : List Stmt} {its : Rho → Res (List D)} {ks : List Nat} {t : D → Rho → Res Rho} {F : Rho → SR} (hg : Gok c G) (hp : PassesOwn (model X.prog X.w) X.A X.env X.xe) (xg : XeG X) (hi : GEx X c G k iter its) (hr : Room (k + 1) X.A) (ht : PG X tg (gD c G G' ks t)) (hb : PSs X body (sD c G G' G F))
    (hK : c.K = X.K := by rfl) (hs : ∀ x, foldedSetIterable iter X.env x = pure x := by intro _; rfl) : PS X (.For tg iter body [] pos) (sD c L G G (forF (okG its) t F)) := ds_forG hg hp xg hr hi ht hb hK hs
theorem de_listGen {e : Expr} {its : Rho → Res (List D)} {nm : Str} (h : GEx X c G k e its) (hr : Room (k + 5) X.A) (hg : Gl X nm) (hmg : X.mg nm = none) (hv : bootBuiltins nm = some (.type "list")) (hK : c.K = X.K := by rfl) (hnm : nm ≠ "__name__" := by decide) (hdb : (nm == ("__debug__" : Str)) = false := by decide)
    (he : starEach [e] X.env = (false, eval e X.env) :: starEach [] X.env := by rfl) : PE X (.Call (.Name nm p) [e] [] pos) (tO c G (dListG its)) := de_listG hr h hg hmg hv hK hnm hdb he
end
end Dx
end S_DxCD
section S_DxCE
set_option Elab.async false
set_option linter.all false
set_option maxRecDepth 100000
set_option maxHeartbeats 2000000
namespace Dx
open PySem PySem.Spec L2 ItX PyProof.Rows
end Dx
end S_DxCE
section S_DxCH
set_option Elab.async false
set_option linter.all false
set_option maxRecDepth 100000
set_option maxHeartbeats 2000000
namespace Dx
open PySem L2 PyProof.Rows
section
variable {X : Cx} {pins : List (Addr × Obj)} {σ : L2.St} {S H : Hp} {s : Shared} {cm : CM}
mutual
theorem nk_is (I : Inv X pins σ H s) (ex : Ex S H) : ∀ {d : D} {v : V} {u : Value} {k : NestedKey}, Rp X.K cm S v d → nkD d = some k → RelV v u → NestedIs s.heap k u
  | .non, _, _, _, h, q, r => by cases h; cases q; cases r; exact .none
  | .bl b, _, _, _, h, q, r => by cases h; cases q; cases r; exact .bool rfl
  | .int i, _, _, _, h, q, r => by cases h; cases q; obtain ⟨t, rfl⟩ := r; exact .int i t
  | .tup ds, _, _, _, h, q, r => by
    cases h with | @tup a xs _ hS rr =>
    cases r
    rw [nkD] at q
    obtain ⟨ks, h1, rfl⟩ := Option.map_eq_some_iff.mp q
    obtain ⟨its, rv, ⟨o, ho, hc, n, hd⟩, _⟩ := I.tuple (.inl (.inl (ex _ _ hS)))
    exact .tup ho hc hd (by simpa using nk_all I ex rr h1 rv)
  | .kt ds, _, _, _, h, q, r => by
    cases h with | @kt a xs _ hS rr =>
    cases r
    rw [nkD] at q
    obtain ⟨ks, h1, rfl⟩ := Option.map_eq_some_iff.mp q
    obtain ⟨its, rv, ⟨o, ho, hc, n, hd⟩, _⟩ := I.tuple (ex.t hS)
    exact .tup ho hc hd (by simpa using nk_all I ex rr h1 rv)
  | .str _, _, _, _, _, q, _ => by cases q
  | .lst _, _, _, _, _, q, _ => by cases q
  | .fz _, _, _, _, _, q, _ => by cases q
  | .dk _ _, _, _, _, _, q, _ => by cases q
  | .dt _ _, _, _, _, _, q, _ => by cases q
  | .dn _ _, _, _, _, _, q, _ => by cases q
  | .obj _ _ _, _, _, _, _, q, _ => by cases q
  | .own _, _, _, _, _, q, _ => by cases q
  | .st _ _, _, _, _, _, q, _ => by cases q
theorem nk_all (I : Inv X pins σ H s) (ex : Ex S H) : ∀ {ds : List D} {vs : List V} {us : List Value} {ks : List NestedKey}, RpA X.K cm S vs ds → nkL ds = some ks → Vals vs us → NestedAll s.heap ks us
  | [], _, _, _, h, q, r => by cases h; cases q; cases r; exact .nil
  | d :: ds, _, _, _, h, q, r => by
    cases h with | cons h1 h2 =>
    cases r with | cons r1 r2 =>
    rw [nkL] at q
    cases e1 : nkD d with
    | none => rw [e1] at q; cases q
    | some k =>
      cases e2 : nkL ds with
      | none => rw [e1, e2] at q; cases q
      | some ks =>
        rw [e1, e2] at q
        cases q
        exact .cons (nk_is I ex h1 e1 r1) (nk_all I ex h2 e2 r2)
end
theorem nkT_some {d : D} {k : NestedKey} (h : nkT d = some k) : nkD d = some k ∧ k.depth ≤ 8 ∧ ∃ ks, k = .tup ks := by
  unfold nkT at h
  split at h
  · rename_i ks e
    split at h
    · rename_i hd
      cases h
      exact ⟨e, hd, ks, rfl⟩
    · cases h
  · cases h
theorem nkT_is (I : Inv X pins σ H s) (ex : Ex S H) {d : D} {v : V} {k : NestedKey} (h : Rp X.K cm S v d) (q : nkT d = some k) : ∃ a, v = .ref a ∧ (nestedKind X.prog X.w).is s.heap k a := by
  obtain ⟨h1, h2, ks, rfl⟩ := nkT_some q
  have ref : ∃ a, v = .ref a := by
    cases d with
    | tup _ => cases h; exact ⟨_, rfl⟩
    | kt _ => cases h; exact ⟨_, rfl⟩
    | non => cases h1
    | bl _ => cases h1
    | int _ => cases h1
    | _ => cases h1
  obtain ⟨a, rfl⟩ := ref
  exact ⟨a, rfl, nk_is I ex h h1 rfl, h2⟩
theorem ext_at {q p : Addr} {ob : Obj} {es : List (NestedKey × Addr × V)} (I : Inv X pins σ H s) (h : Rd H q (.ext (dnP p ob es))) : p = q ∧ dnP p ob es s.heap := by
  have ok : ObjOk X.prog X.w H s.heap q (.ext (dnP p ob es)) := by
    rcases h with h | ⟨o, h⟩
    · exact I.hok q _ h
    · exact (I.hok q _ h).2
  obtain ⟨h1, _, st⟩ := ok
  refine ⟨?_, h1⟩
  apply Classical.byContradiction
  intro hne
  have h2 := st s.heap (PySem.W.hideAll s.heap [p]) h1 fun o e => PySem.W.hideAll_get _ e (by simp; exact fun z => hne z.symm)
  obtain ⟨_, _, o, _, _, _, ho, _⟩ := h2
  rw [PySem.W.hideAll_none _ (by simp)] at ho
  cases ho
theorem paired_get {α β : Type} {F : α → β → Prop} : ∀ {xs : List α} {ys : List β} {i : Nat} {x : α}, Paired F xs ys → xs[i]? = some x → ∃ y, ys[i]? = some y ∧ F x y
  | _, _, 0, _, .cons h _, e => by simp at e; subst e; exact ⟨_, by simp, h⟩
  | _, _, i + 1, x, .cons _ t, e => by
    obtain ⟨y, h1, h2⟩ := paired_get (i := i) (x := x) t (by simpa using e)
    exact ⟨y, by simpa using h1, h2⟩
  | _, _, _, _, .nil, e => by simp at e
theorem dn_at {q p : Addr} {ob : Obj} {es : List (NestedKey × Addr × V)} {ks : List D} (I : Inv X pins σ H s) (ex : Ex S H) (h : Rd H q (.ext (dnP p ob es))) (nk : NkOk es ks) (rk : RpA X.K cm S (es.map fun e => .ref e.2.1) ks) :
    p = q ∧ (q == sysModules) = false ∧ ∃ xs, Paired EntOk es xs ∧ s.heap.DictOfH (nestedKind X.prog X.w) q xs := by
  obtain ⟨rfl, hs, xs, o, eps, ep, rel, ho, hx, hd, he, eo⟩ := ext_at I h
  refine ⟨rfl, hs, xs, rel, o, eps, ep, ho, hx, hd, he X.w, fun x hx => ?_, ?_⟩
  · obtain ⟨i, hi⟩ := List.getElem?_of_mem hx
    have hl := Paired.length rel
    have hlt : i < es.length := by rw [hl]; exact (List.getElem?_eq_some_iff.mp hi).1
    obtain ⟨e, hei⟩ : ∃ e, es[i]? = some e := ⟨es[i], List.getElem?_eq_getElem hlt⟩
    have en : EntOk e x := by
      obtain ⟨y, hy, q⟩ := paired_get rel hei
      rw [hi] at hy; cases hy
      exact q
    obtain ⟨d, hd1, hr⟩ := rk.getV (i := i) (v := .ref e.2.1) (by rw [List.getElem?_map, hei]; rfl)
    have hk : nkT d = some e.1 := by
      have := congrArg (fun l => l[i]?) nk.eq
      simp only [List.getElem?_map, hei, hd1, Option.map_some] at this
      exact Option.some.inj this
    obtain ⟨a, ha, is⟩ := nkT_is I ex hr hk
    cases ha
    rw [← en.1, ← en.2.1]
    exact is
  · have : xs.map (·.1) = es.map (·.1) := by
      clear he hd hx ho ex nk rk h I
      induction rel with
      | nil => rfl
      | cons h _ ih => rw [List.map_cons, List.map_cons, ih, h.1]
    rw [this]
    exact nk.nd
end
end Dx
end S_DxCH
section S_DxCI
set_option Elab.async false
set_option linter.all false
set_option maxRecDepth 100000
set_option maxHeartbeats 2000000
namespace Dx
open PySem L2 PyProof.Rows
section
variable {X : Cx} {c : Cf} {L G G' : List Ow} {a b e : Expr} {pos : Pos} {f f1 f2 : Rho → Res D} {k : Nat}
/-- the key v, the dict at q -/
structure KeyAt (K : PySem.W.Frag) (cm : CM) (S H : Hp) (y x : V) (n : NestedKey) (q p : Addr) (ob : Obj) (es : List (NestedKey × Addr × V)) (d : D) (ks : List D) : Prop where
  ex : Ex S H
  key : Rp K cm S y d
  nk : nkT d = some n
  rd : Rd H q (.ext (dnP p ob es))
  ok : NkOk es ks
  keys : RpA K cm S (es.map fun e => .ref e.2.1) ks
  eq : x = .ref q
theorem KeyAt.at {K : PySem.W.Frag} {cm : CM} {S H : Hp} {y x : V} {n : NestedKey} {q p : Addr} {ob : Obj} {es : List (NestedKey × Addr × V)} {d : D} {ks : List D} {pins : List (Addr × Obj)} {σ : L2.St} {s : Shared} {u w : Value} (h : KeyAt K cm S H y x n q p ob es d ks) (hK : K = X.K) (I : Inv X pins σ H s) (ry : RelV y u) (rx : RelV x w) :
    w = .ref q ∧ p = q ∧ (q == sysModules) = false ∧ ∃ a, u = .ref a ∧ (nestedKind X.prog X.w).is s.heap n a ∧ ∃ xs, Paired EntOk es xs ∧ s.heap.DictOfH (nestedKind X.prog X.w) q xs := by
  subst hK
  obtain ⟨a, rfl, hk⟩ := nkT_is I h.ex h.key h.nk
  obtain ⟨hp, hs, xs, rel, dd⟩ := dn_at I h.ex h.rd h.ok h.keys
  have := h.eq
  subst this
  exact ⟨rx, hp, hs, a, ry, hk, xs, rel, dd⟩
end
end Dx
end S_DxCI
section S_DxCJ
set_option Elab.async false
set_option linter.all false
set_option maxRecDepth 100000
set_option maxHeartbeats 2000000
namespace Dx
open PySem L2 PyProof.Rows
end Dx
end S_DxCJ
section S_DxCK
set_option Elab.async false
set_option linter.all false
set_option maxRecDepth 100000
set_option maxHeartbeats 2000000
namespace Dx
open PySem L2
section
variable {c : Cf} {S0 H0 S H S' H' : Hp} {G : List Ow} {σ : L2.St} {r : Rho}
/-- kinds: i a j, g and g' own containers, all else values -/
structure GJ (G : List Ow) (i g1 g2 : Nat) (a q p : Addr) (fs : List (Str × V)) : Prop where
  ki : kd G i = .j a fs
  k1 : kd G g1 = .i q
  k2 : kd G g2 = .i p
  kv : ∀ j, j ≠ i → j ≠ g1 → j ≠ g2 → kd G j = .v ∨ kd G j = .b
/-- a value, or what stays as it is -/
def VB (c : Cf) (G : List Ow) (S H0 : Hp) (j : Nat) (v : V) (d : D) : Prop := (kd G j = .v ∧ Rp c.K c.cm S v d) ∨ (kd G j = .b ∧ RpB c.K c.cm S H0 v d)
theorem VB.slot {c : Cf} {G : List Ow} {S H H0 : Hp} {j : Nat} {v : V} {d : D} (h : VB c G S H0 j v d) : SlotOk c H0 S H (kd G j) v d := by
  rcases h with ⟨h1, h2⟩ | ⟨h1, h2⟩
  · rw [h1]; exact h2
  · rw [h1]; exact h2
theorem VB.nO {c : Cf} {G : List Ow} {S H0 : Hp} {j : Nat} {v : V} {d : D} (h : VB c G S H0 j v d) : (∀ P, kd G j ≠ .s P) ∧ kd G j ≠ .w ∧ ¬ isO (kd G j) := by
  rcases h with ⟨h1, _⟩ | ⟨h1, _⟩ <;> rw [h1] <;> exact ⟨fun P z => (by cases z), fun z => (by cases z), fun z => z⟩
theorem VB.up {c : Cf} {G G' : List Ow} {S S' H0 H0' : Hp} {j : Nat} {v : V} {d : D} (h : VB c G S H0 j v d) (hk : kd G' j = kd G j) (e : Ex S S') (f : ∀ b o, H0 b = some o → H0' b = some o) : VB c G' S' H0' j v d := by
  rcases h with ⟨h1, h2⟩ | ⟨h1, h2 | ⟨p, ho, q1, q2, q3⟩⟩
  · exact .inl ⟨hk.trans h1, h2.mono e⟩
  · exact .inr ⟨hk.trans h1, .inl (h2.mono e)⟩
  · exact .inr ⟨hk.trans h1, .inr ⟨p, ho, q1, f _ _ q2, q3.mono e⟩⟩
theorem VB.of {c : Cf} {G : List Ow} {S H H0 : Hp} {j : Nat} {v : V} {d : D} (hk : kd G j = .v ∨ kd G j = .b) (h : SlotOk c H0 S H (kd G j) v d) : VB c G S H0 j v d := by
  rcases hk with hk | hk
  · rw [hk] at h; exact .inl ⟨hk, h⟩
  · rw [hk] at h; exact .inr ⟨hk, h⟩
theorem env_j {i g1 g2 : Nat} {a q p C dx : Addr} {fs : List (Str × V)} {n : Str} {hq hp : HO} {d1 d2 : D} (gj : GJ G i g1 g2 a q p fs) (ne : i ≠ g1 ∧ i ≠ g2 ∧ g1 ≠ g2) (hqp : q ≠ p) (fw : Fwd S0 H0 S H) (hl : σ.length = r.length) (hv : ∀ j d, j ≠ i → j ≠ g1 → j ≠ g2 → r[j]? = some (some d) → ∃ v, σ[j]? = some (some v) ∧ VB c G S H0 j v d)
    (ri : r[i]? = some (some (.obj n [] []))) (si : σ[i]? = some (some (.ref a))) (hcn : c.cm n = some C) (h0 : H0 a = some (.ins C dx fs)) (r1 : r[g1]? = some (some d1)) (s1 : σ[g1]? = some (some (.ref q))) (q1 : H q = some hq) (q2 : S q = none) (q3 : H0 q = none) (q4 : RpO c.K c.cm S hq d1)
    (r2 : r[g2]? = some (some d2)) (s2 : σ[g2]? = some (some (.ref p))) (p1 : H p = some hp) (p2 : S p = none) (p3 : H0 p = none) (p4 : RpO c.K c.cm S hp d2) (ht : ∀ P q, c.tb P q → LamX.TabS H0 P q) : EnvOk c S0 H0 G S H σ r := by
  obtain ⟨n1, n2, n3⟩ := ne
  have own : ∀ j, isO (kd G j) → j = g1 ∨ j = g2 := fun j h => by
    by_cases e1 : j = g1
    · exact .inl e1
    · by_cases e2 : j = g2
      · exact .inr e2
      · exfalso
        by_cases e0 : j = i
        · rw [e0, gj.ki] at h; exact h
        · rcases gj.kv j e0 e1 e2 with z | z <;> rw [z] at h <;> exact h
  refine ⟨fw, hl, fun j d hj => ?_, fun j k d d' x hj hk kj kk sj sk => ?_, [], StoOk.nil (fun j d hj => ?_) ht⟩
  · by_cases e0 : j = i
    · subst e0
      rw [ri] at hj; cases hj
      exact ⟨_, si, by rw [gj.ki]; exact ⟨rfl, C, dx, n, hcn, h0, rfl⟩⟩
    · by_cases e1 : j = g1
      · subst e1
        rw [r1] at hj; cases hj
        exact ⟨_, s1, by rw [gj.k1]; exact ⟨rfl, q, hq, rfl, q1, q2, q3, q4⟩⟩
      · by_cases e2 : j = g2
        · subst e2
          rw [r2] at hj; cases hj
          exact ⟨_, s2, by rw [gj.k2]; exact ⟨rfl, p, hp, rfl, p1, p2, p3, p4⟩⟩
        · obtain ⟨v, z1, z2⟩ := hv j d e0 e1 e2 hj
          exact ⟨v, z1, z2.slot⟩
  · rcases own j kj with rfl | rfl
    · rcases own k kk with rfl | rfl
      · rfl
      · rw [s1] at sj; rw [s2] at sk
        cases sj; cases sk
        exact absurd rfl hqp
    · rcases own k kk with rfl | rfl
      · rw [s2] at sj; rw [s1] at sk
        cases sj; cases sk
        exact absurd rfl hqp
      · rfl
  · by_cases e0 : j = i
    · subst e0; rw [gj.ki]; exact ⟨fun P z => (by cases z), fun z => (by cases z)⟩
    · by_cases e1 : j = g1
      · subst e1; rw [gj.k1]; exact ⟨fun P z => (by cases z), fun z => (by cases z)⟩
      · by_cases e2 : j = g2
        · subst e2; rw [gj.k2]; exact ⟨fun P z => (by cases z), fun z => (by cases z)⟩
        · rcases gj.kv j e0 e1 e2 with z | z <;> rw [z] <;> exact ⟨fun P z => (by cases z), fun z => (by cases z)⟩
theorem env_0 (fw : Fwd S0 H0 S H) (hl : σ.length = r.length) (hv : ∀ (j : Nat) (d : D), r[j]? = some (some d) → ∃ v : V, σ[j]? = some (some v) ∧ VB c G S H0 j v d) (ht : ∀ P q, c.tb P q → LamX.TabS H0 P q) : EnvOk c S0 H0 G S H σ r := by
  refine ⟨fw, hl, fun j d hj => ?_, fun j k d d' x hj hk2 kj kk sj sk => ?_, [], StoOk.nil (fun j d hj => ?_) ht⟩
  · obtain ⟨v, z1, z2⟩ := hv j d hj
    exact ⟨v, z1, z2.slot⟩
  · obtain ⟨v, z1, z2⟩ := hv j d hj
    exact absurd kj z2.nO.2.2
  · obtain ⟨v, z1, z2⟩ := hv j d hj
    exact ⟨z2.nO.1, z2.nO.2.1⟩
/-- kinds: i one's own object, all else values -/
theorem env_i {i : Nat} {a : Addr} {ho : HO} {d0 : D} (ki : kd G i = .i a) (fw : Fwd S0 H0 S H) (hl : σ.length = r.length) (hv : ∀ j d, j ≠ i → r[j]? = some (some d) → ∃ v, σ[j]? = some (some v) ∧ VB c G S H0 j v d) (ri : r[i]? = some (some d0)) (si : σ[i]? = some (some (.ref a)))
    (q1 : H a = some ho) (q2 : S a = none) (q3 : H0 a = none) (q4 : RpO c.K c.cm S ho d0) (ht : ∀ P q, c.tb P q → LamX.TabS H0 P q) : EnvOk c S0 H0 G S H σ r := by
  have own : ∀ j d, r[j]? = some (some d) → isO (kd G j) → j = i := fun j d hj h => by
    apply Classical.byContradiction
    intro e
    obtain ⟨v, z1, z2⟩ := hv j d e hj
    exact z2.nO.2.2 h
  refine ⟨fw, hl, fun j d hj => ?_, fun j k d d' x hj hk2 kj kk sj sk => (own j d hj kj).trans (own k d' hk2 kk).symm, [], StoOk.nil (fun j d hj => ?_) ht⟩
  · by_cases e0 : j = i
    · subst e0
      rw [ri] at hj; cases hj
      exact ⟨_, si, by rw [ki]; exact ⟨rfl, a, ho, rfl, q1, q2, q3, q4⟩⟩
    · obtain ⟨v, z1, z2⟩ := hv j d e0 hj
      exact ⟨v, z1, z2.slot⟩
  · by_cases e0 : j = i
    · subst e0; rw [ki]; exact ⟨fun P z => (by cases z), fun z => (by cases z)⟩
    · obtain ⟨v, z1, z2⟩ := hv j d e0 hj
      exact ⟨z2.nO.1, z2.nO.2.1⟩
end
section
variable {X : Cx} {pins : List (Addr × Obj)}
theorem ghost_ok {σ : L2.St} {H : Hp} {s : Shared} {g : Nat} {y : Str} {v : Option V} (I : Inv X pins σ H s) (hN : X.N[g]? = some y) (hv : ¬ Vis X.env.scope y) : Inv X pins (σ.set g v) H s := by
  refine ⟨I.ok, I.os, I.bare, I.base, ?_, I.cell, I.free, I.freeC, I.pin, I.hok, by rw [List.length_set]; exact I.len⟩
  obtain ⟨m, hn, hl⟩ := I.loc
  refine ⟨m, hn, fun i x u e1 e2 e3 => ?_⟩
  by_cases h : g = i
  · subst h
    rw [hN] at e1; cases e1
    exact absurd e3 hv
  · rw [List.getElem?_set_ne h] at e2
    exact hl i x u e1 e2 e3
theorem pss_ghost {sts : List Stmt} {t t' : TS} (h : PSs X sts t) (g : Nat) {y : Str} (hN : X.N[g]? = some y) (hv : ¬ Vis X.env.scope y) (k : ∀ E σ H, t' E σ H → ∃ v, t E (σ.set g v) H) : PSs X sts t' := ⟨fun pins s σ H E I q => by
  obtain ⟨v, z⟩ := k _ _ _ q
  exact h.run pins s _ H E (ghost_ok I hN hv) z⟩
end
section
variable {X : Cx} {c : Cf} {L G G' : List Ow} {e : Expr} {pos apos cpos : Pos} {f f1 : Rho → Res D} {k : Nat} {x fl n : Str} {i g : Nat} {C a q : Addr} {fs : List (Str × V)} {pn p' : Pos}
/-- the slot i holds the object of the class n -/
def jIs (i : Nat) (n : Str) (r : Rho) : Res Unit := match r[i]? with
  | some (some (.obj c [] [])) => if c = n then .ok () else .bad
  | _ => .bad
theorem jIs_ok {S0 H0 S H : Hp} {σ : L2.St} {r : Rho} (ok : EnvOk c S0 H0 G S H σ r) (ki : kd G i = .j a fs) (h : jIs i n r = .ok ()) (hcn : c.cm n = some C) : σ[i]? = some (some (.ref a)) ∧ ∃ dx, H a = some (.ins C dx fs) := by
  unfold jIs at h
  split at h
  · rename_i c' hr
    split at h
    · rename_i hc
      subst hc
      obtain ⟨v, q1, q2⟩ := ok.slot i _ hr
      rw [ki] at q2
      obtain ⟨rfl, C', dx, n', z1, z2, z3⟩ := q2
      cases z3
      rw [hcn] at z1; cases z1
      exact ⟨q1, dx, ok.fwd.h _ _ z2⟩
    · cases h
  · cases h
theorem jIs_cases {r : Rho} : jIs i n r = .ok () ∨ jIs i n r = .bad := by
  unfold jIs
  split
  · split
    · exact .inl rfl
    · exact .inr rfl
  · exact .inr rfl
/-- x.f, read -/
def dJf (i g : Nat) (n : Str) : Rho → Res D := fun r => (jIs i n r).bind fun _ => dVar g r
theorem de_jfld (hcn : c.cm n = some C) (cl : Cls X.K C) (na : NoAttr X.K C fl) (ki : kd G i = .j a fs) (kg : kd G g = .i q) (hl : fs.lookup fl = some (.ref q)) (ho : PE X (.Name x pn) (tVar i))
    (hb : attributeBase (.Name x pn) fl X.env (eval (.Name x pn) X.env) = eval (.Name x pn) X.env := by rfl) : PE X (.Attribute (.Name x pn) fl apos) (tR c G (dJf i g n)) := pe_imp (pe_fld ho hb) fun σ H Q ⟨S0, H0, S, r, ok, p⟩ => by
  unfold dJf at p
  rcases jIs_cases (i := i) (n := n) (r := r) with h | h
  · obtain ⟨s1, dx, Ha⟩ := jIs_ok ok ki h hcn
    rw [h] at p
    have p : PostG c σ S H (dVar g r) (fun d S' H' => ∀ b, mB c H S' H' b d → Q b H') := p
    unfold dVar at p
    split at p
    · rename_i d hd
      obtain ⟨v, q1, q2⟩ := ok.slot g d hd
      rw [kg] at q2
      obtain ⟨rfl, p0, ho, z1, z2, z3, z4, z5⟩ := q2
      cases z1
      exact ⟨.ref a, s1, a, C, dx, fs, .ref q, rfl, Ha, cl, na, hl, p.go ok.ex _ (.inr ⟨q, ho, rfl, z2, z5⟩)⟩
    · exact p.elim
  · rw [h] at p; exact p.elim
/-- x.f.append(e) -/
noncomputable def appJF (i g : Nat) (n : Str) (f : Rho → Res D) : Rho → SR := fun r => liftS r (jIs i n r) fun _ => appF g f r
theorem ds_appJ (hg : Gok c G) (hcn : c.cm n = some C) (cl : Cls X.K C) (na : NoAttr X.K C fl) (ki : kd G i = .j a fs) (kg : kd G g = .i q) (hl : fs.lookup fl = some (.ref q)) (ho : PE X (.Name x pn) (tVar i)) (he : PE X e (tV c G f))
    (hb : attributeBase (.Name x pn) fl X.env (eval (.Name x pn) X.env) = eval (.Name x pn) X.env := by rfl) (hw : swapsWith (.Call (.Attribute (.Attribute (.Name x pn) fl p') "append" apos) [e] [] cpos) none pos.line X.env = pure false := by rfl)
    (hbase : attributeBase (.Attribute (.Name x pn) fl p') "append" X.env (eval (.Attribute (.Name x pn) fl p') X.env) = eval (.Attribute (.Name x pn) fl p') X.env := by rfl)
    (hfew : ((backTo cpos (starEach [e] X.env)).all (fun x => !x.1) && (backToKw cpos (keywordEach [] X.env)).all (fun x => x.1.isSome) && decide ([e].length + ([] : List Keyword).length + (if ([] : List Keyword).isEmpty then 0 else 1) < 30)) = true := by rfl)
    (hline : (apos.endLine == cpos.line) = true := by rfl) (hs : starEach [e] X.env = (false, eval e X.env) :: starEach [] X.env := by rfl) :
    PS X (.Expr (.Call (.Attribute (.Attribute (.Name x pn) fl p') "append" apos) [e] [] cpos) pos) (sD c L G G (appJF i g n f)) :=
  ps_imp (ps_expr (pe_app (pe_fld ho hb) he hbase hfew hline hs) hw) fun E σ H ⟨S0, H0, S, r, ok, p⟩ => by
    unfold appJF at p
    rcases jIs_cases (i := i) (n := n) (r := r) with h | h
    · obtain ⟨s1, dx, Ha⟩ := jIs_ok ok ki h hcn
      rw [h] at p
      have p : PostS c S0 H0 L G (appF g f r) E := p
      unfold appF ownL at p
      split at p
      · rename_i ds hd
        obtain ⟨v, q1, q2⟩ := ok.slot g _ hd
        rw [kg] at q2
        obtain ⟨rfl, p0, ho', z1, z2, z3, z4, z5⟩ := q2
        cases z1
        cases z5 with | @lst xs _ rr =>
        refine ⟨.ref a, s1, a, C, dx, fs, .ref q, rfl, Ha, cl, na, hl, .inl ⟨rfl, xs, .inl (.inl z2)⟩, st_seq hg ok p fun d v S1 H1 w1 o1 m1 p2 => ?_⟩
        obtain ⟨hl', p2⟩ := p2.gd
        exact ⟨q, xs, v, rfl, rfl, w1.h _ _ z2, by rw [rr.length]; exact hl', p2 σ S1 _ (o1.mutI (by rw [kg]; trivial) hd q1 (.lst ((rr.mono w1.s).app (.one m1))))⟩
      · exact p.elim
    · rw [h] at p; exact p.elim
/-- x.f[e'] = e -/
noncomputable def putJF (i g : Nat) (n : Str) (fk f : Rho → Res D) : Rho → SR := fun r => liftS r (jIs i n r) fun _ => putF g fk f r
theorem ds_putJ {ix : Expr} {fk : Rho → Res D} {pa : Pos} (hg : Gok c G) (hr : Room k X.A) (hcn : c.cm n = some C) (cl : Cls X.K C) (na : NoAttr X.K C fl) (ki : kd G i = .j a fs) (kg : kd G g = .i q) (hl : fs.lookup fl = some (.ref q)) (ho : PE X (.Name x pn) (tVar i)) (hi : PE X ix (tV c G fk)) (he : PE X e (tV c G f))
    (hb : attributeBase (.Name x pn) fl X.env (eval (.Name x pn) X.env) = eval (.Name x pn) X.env := by rfl)
    (hs : swapsWith e (some (.Subscript (.Attribute (.Name x pn) fl pa) ix p')) pos.line X.env = pure false := by rfl) : PS X (.Assign [.Subscript (.Attribute (.Name x pn) fl pa) ix p'] e pos) (sD c L G G (putJF i g n fk f)) :=
  ps_imp (ps_dput (by have := hr.units; omega) (pe_fld ho hb) hi he hs) fun E σ H ⟨S0, H0, S, r, ok, p⟩ => by
    unfold putJF at p
    rcases jIs_cases (i := i) (n := n) (r := r) with h | h
    · obtain ⟨s1, dx, Ha⟩ := jIs_ok ok ki h hcn
      rw [h] at p
      have p : PostS c S0 H0 L G (putF g fk f r) E := p
      unfold putF at p
      refine st_seq hg ok p fun d v S1 H1 w1 o1 m1 p1 => ?_
      cases hK : ownK g r with
      | err n ns vs => exfalso; unfold ownK at hK; split at hK <;> cases hK
      | bad => rw [hK] at p1; exact p1.elim
      | ok o =>
        rw [hK] at p1
        unfold ownK at hK
        split at hK
        · rename_i ks vs hd
          cases hK
          obtain ⟨v', q1, q2⟩ := o1.slot g _ hd
          rw [kg] at q2
          obtain ⟨rfl, p0, ho', z1, z2, z3, z4, z5⟩ := q2
          cases z1
          cases z5 with
          | @dk kvs _ _ hks hvs =>
            subst hks
            refine ⟨.ref a, s1, a, C, dx, fs, .ref q, rfl, w1.h _ _ Ha, cl, na, hl, st_seq hg o1 p1 fun kd' kv S2 H2 w2 o2 m2 p2 => ?_⟩
            unfold asK at p2
            split at p2
            · rename_i xk hx
              have hxk : keyD kd' = some xk := hx
              obtain ⟨hl', p3⟩ := p2.gd
              have hq2 : H2 q = some (.dK kvs) := w2.h _ _ z2
              have pr := put_rp (k := xk) (m1.mono w2.s) (hvs.mono w2.s)
              have hl2 : kvs.length < sizeLine := by simpa using hl'
              have hkv := key_v (H := H2) (.inl m2) hxk
              subst hkv
              exact ⟨q, _, rfl, DPut.k hq2 hl2, p3 σ S2 _ (o2.mutI (by rw [kg]; trivial) hd q1 (.dk pr.1 pr.2))⟩
            · exact p2.elim
        · cases hK
    · rw [h] at p; exact p.elim
/-- two fields that are empty containers, a statement that fills them, the rest -/
def gramS (i g1 g2 jb : Nat) (n f0 fl1 fl2 : Str) (Fl F : Rho → SR) : Rho → SR := fun r => match r[i]? with
  | some (some (.obj c [f] [d0])) => if c = n ∧ f = f0 ∧ g1 < r.length ∧ g2 < r.length then (match Fl (((r.set i (some (.obj n [] []))).set g1 (some (.lst []))).set g2 (some (.dk [] []))) with
    | .nx r' => (match r'[i]?, r'[g1]?, r'[g2]? with
      | some (some (.obj _ [] [])), some (some (.lst ds)), some (some (.dk ks vs)) => F ((((r'.set i (some (.obj n [f0, fl1, fl2] [d0, .lst ds, .dk ks vs]))).set g1 none).set g2 none).set jb none)
      | _, _, _ => .bad)
    | .er r' m ns vs => .er r' m ns vs
    | _ => .bad) else .bad
  | _ => .bad
theorem Tk.un {H : Hp} {a : Addr} {o : HO} (pl : Pl o) : Tk (upd H a o) H := .butP (O := fun b => b = a) (fun b z => by subst z; exact ⟨o, upd_same, pl⟩) fun b u hb e => by
  rw [upd_ne hb] at e; exact e
theorem old_ins {C dx : Addr} {fs : List (Str × V)} {o : Option HO} (h : Old o) (e : o = some (.ins C dx fs)) : False := by
  rw [e] at h
  rcases h with h | ⟨xs, h⟩
  · cases h
  · cases h
theorem ds_gram {i g1 g2 jb : Nat} {n f0 fl1 fl2 x y1 y2 : Str} {C a : Addr} {e1 e2 : Expr} {loop : Stmt} {rest : List Stmt} {pn pm p1 p2 pos1 pos2 : Pos} {z1 z2 : Rho → Res D} {Fl F : Rho → SR} {Gj : Addr → Addr → V → List Ow} (hge : ∀ g, c.ge ≠ some g) (ne : i ≠ g1 ∧ i ≠ g2 ∧ g1 ≠ g2) (nf : f0 ≠ fl1 ∧ f0 ≠ fl2 ∧ fl1 ≠ fl2)
    (hcn : c.cm n = some C) (cl : Cls X.K C) (na1 : NoAttr X.K C fl1) (na2 : NoAttr X.K C fl2) (ki : kd G i = .i a) (hib : i ≠ jb) (hk : ∀ j, j ≠ i → kd G j = .v ∨ (kd G j = .b ∧ j = jb)) (ho : PE X (.Name x pn) (tVar i)) (ho2 : PE X (.Name x pm) (tVar i)) (he1 : PE X e1 (tO c G z1)) (hz1 : ∀ r, z1 r = .ok (.lst [])) (he2 : PE X e2 (tO c G z2)) (hz2 : ∀ r, z2 r = .ok (.dk [] []))
    (hN1 : X.N[g1]? = some y1) (hv1 : ¬ Vis X.env.scope y1) (hN2 : X.N[g2]? = some y2) (hv2 : ¬ Vis X.env.scope y2) (gj : ∀ q p v0, GJ (Gj q p v0) i g1 g2 a q p [(f0, v0), (fl1, .ref q), (fl2, .ref p)]) (gk : ∀ q p v0 j, j ≠ i → j ≠ g1 → j ≠ g2 → kd (Gj q p v0) j = kd G j) (hloop : ∀ q p v0, PS X loop (sD c [] (Gj q p v0) (Gj q p v0) Fl)) (hrest : PSs X rest (sD c L G G' F))
    (hs1 : swapsWith e1 (some (.Attribute (.Name x pn) fl1 p1)) pos1.line X.env = pure false := by rfl) (hs2 : swapsWith e2 (some (.Attribute (.Name x pm) fl2 p2)) pos2.line X.env = pure false := by rfl) (htb : ∀ P q, ¬ c.tb P q := by intro _ _ z; exact z) :
    PSs X (.Assign [.Attribute (.Name x pn) fl1 p1] e1 pos1 :: .Assign [.Attribute (.Name x pm) fl2 p2] e2 pos2 :: loop :: rest) (sD c L G G' (gramS i g1 g2 jb n f0 fl1 fl2 Fl F)) := by
  have hl : PS X loop (fun E σ H => ∃ q p v0, sD c [] (Gj q p v0) (Gj q p v0) Fl E σ H) := ⟨fun pins s σ H E I ⟨q, p, v0, h⟩ => (hloop q p v0).run pins s σ H E I h⟩
  have h3 := pss_cons hl (pss_lock hrest (t2 := fun E σ H => Lo (fun H => sD c L G G' F E σ H) H) fun E σ H h => h)
  have h2 := pss_ghost (pss_ghost h3 g2 hN2 hv2 (t' := fun E σ H => ∃ v, tSeq (fun E σ H => ∃ q p v0, sD c [] (Gj q p v0) (Gj q p v0) Fl E σ H) (fun E σ H => Lo (fun H => sD c L G G' F E σ H) H) E (σ.set g2 v) H) fun E σ H h => h) g1 hN1 hv1
    (t' := fun E σ H => ∃ v1 v2, tSeq (fun E σ H => ∃ q p v0, sD c [] (Gj q p v0) (Gj q p v0) Fl E σ H) (fun E σ H => Lo (fun H => sD c L G G' F E σ H) H) E ((σ.set g1 v1).set g2 v2) H) fun E σ H h => h
  refine pss_imp (pss_cons (ps_fld ho he1 hs1) (pss_cons (ps_fld ho2 he2 hs2) h2)) fun E σ H ⟨S0, H0, S, r, ok, pp⟩ => ?_
  unfold gramS at pp
  split at pp
  · rename_i c' f' d0 hr
    by_cases hc : c' = n ∧ f' = f0 ∧ g1 < r.length ∧ g2 < r.length
    · rw [if_pos hc] at pp
      obtain ⟨rfl, rfl, hl1, hl2⟩ := hc
      obtain ⟨v, sa, so⟩ := ok.slot i _ hr
      rw [ki] at so
      obtain ⟨rfl, a0, ho0, z, Ha, Sa, H0a, rp⟩ := so
      cases z
      cases rp with | @obj C' dx _ fs _ _ hc1 hc2 hc3 =>
      rw [hcn] at hc1; cases hc1
      obtain ⟨v0, rfl⟩ : ∃ v0, fs = [(f', v0)] := by
        match fs, hc2 with
        | [(g, v0)], h => simp at h; exact ⟨v0, by rw [h]⟩
      cases hc3 with | cons hv0 _ =>
      refine ⟨S0, H0, S, r, ok, ?_⟩
      rw [hz1]
      intro S1 H1 w1 yv hy
      obtain ⟨q, hoq, rfl, nq, Sq, Hq, rq⟩ := hy
      cases rq with | lst rxs =>
      cases rxs
      have qa : q ≠ a := fun z => by rw [z, Ha] at nq; cases nq
      have Ha1 := w1.h a _ Ha
      have S1a : S1 a = none := by
        cases q : S1 a with
        | none => rfl
        | some o => exact (old_ins (w1.new a o q Sa) Ha).elim
      refine ⟨.ref a, sa, a, C, dx, [(f', v0)], rfl, Ha1, cl, na1, by show 1 < 1000; decide, ?_⟩
      have e1' : L2.putF fl1 (.ref q) [(f', v0)] = [(f', v0), (fl1, .ref q)] := by
        unfold L2.putF; rw [if_neg nf.1]; rfl
      rw [e1']
      have ok1 := ok.go w1
      have oth : ∀ (j : Nat) d, (r.set i none)[j]? = some (some d) → j ≠ i ∧ r[j]? = some (some d) := fun j d h => by
        rcases set_some h with ⟨_, z, _⟩ | ⟨z, h⟩
        · cases z
        · exact ⟨Ne.symm z, h⟩
      have okA : EnvOk c S0 (upd H0 a (.ins C dx [(f', v0), (fl1, .ref q)])) G S1 (upd H1 a (.ins C dx [(f', v0), (fl1, .ref q)])) σ (r.set i none) := by
        have up0 : ∀ b o, H0 b = some o → upd H0 a (.ins C dx [(f', v0), (fl1, .ref q)]) b = some o := fun b o h => by
          have : b ≠ a := fun z => by rw [z, H0a] at h; cases h
          rw [upd_ne this]; exact h
        refine env_0 ⟨ok1.fwd.s, ok1.fwd.h.both, ok1.fwd.sub.put S1a, fun b o hb n0 => ?_, (Tk.un .ins).trans (ok1.fwd.tb.trans (Tk.at Ha1 .ins))⟩ (by rw [List.length_set]; exact ok1.len) (fun j d h => ?_) fun P q z => (htb P q z).elim
        · have : b ≠ a := fun z => by rw [z, S1a] at hb; cases hb
          rw [upd_ne this]
          exact ok1.fwd.new b o hb n0
        · obtain ⟨nj, hj⟩ := oth j d h
          obtain ⟨u, u1, u2⟩ := ok1.slot j d hj
          exact ⟨u, u1, (VB.of ((hk j nj).imp id fun z => z.1) u2).up rfl Ex.refl up0⟩
      refine ⟨S0, _, S1, r.set i none, okA, ?_⟩
      rw [hz2]
      intro S2 H2 w2 yv2 hy2
      obtain ⟨p, hop, rfl, np, Sp, Hp', rp2⟩ := hy2
      cases rp2 with | @dk kvs _ _ hks hvs =>
      have kn : kvs = [] := by cases kvs with | nil => rfl | cons _ _ => cases hks
      subst kn
      have Ha2 : H2 a = some (.ins C dx [(f', v0), (fl1, .ref q)]) := w2.h a _ upd_same
      have pa : p ≠ a := fun z => by rw [z, upd_same] at np; cases np
      rw [upd_ne pa] at np
      have Hq2 : H2 q = some (.lst []) := w2.h q _ (by rw [upd_ne qa]; exact Hq)
      have qp : q ≠ p := fun z => by rw [z, np] at Hq; cases Hq
      have S2a : S2 a = none := by
        cases h : S2 a with
        | none => rfl
        | some o => exact (old_ins (w2.new a o h S1a) upd_same).elim
      have S2q : S2 q = none := by
        cases h : S2 q with
        | none => rfl
        | some o =>
          obtain ⟨xs, z⟩ := (w2.new q o h Sq).not (by rw [upd_ne qa]; exact Hq)
          cases z
      have H0q : H0 q = none := ok.fwd.h.nn nq
      have H0p : H0 p = none := ok1.fwd.h.nn np
      refine ⟨.ref a, sa, a, C, dx, [(f', v0), (fl1, .ref q)], rfl, Ha2, cl, na2, by show 2 < 1000; decide, ?_⟩
      have e2' : L2.putF fl2 (.ref p) [(f', v0), (fl1, .ref q)] = [(f', v0), (fl1, .ref q), (fl2, .ref p)] := by
        unfold L2.putF; rw [if_neg nf.2.1]
        unfold L2.putF; rw [if_neg nf.2.2]; rfl
      rw [e2']
      generalize hins : HO.ins C dx [(f', v0), (fl1, .ref q), (fl2, .ref p)] = ins2
      have hEx : ∀ b o, b ≠ a → H0 b = some o → Nx H2 b o := fun b o hb h => (((ok1.fwd.h b o h).put hb).up w2.h)
      have s02 : Ex S0 S2 := ok1.fwd.s.trans w2.s
      have new2 : ∀ b o, S2 b = some o → S0 b = none → Old (H0 b) := fun b o hb n0 => by
        have hba : b ≠ a := fun z => by rw [z, S2a] at hb; cases hb
        cases h : S1 b with
        | some o' => exact ok1.fwd.new b o' h n0
        | none =>
          have z := w2.new b o hb h
          rw [upd_ne hba] at z
          exact z.back ok1.fwd.h
      have old0 : ∀ b, Old (upd H0 a ins2 b) → Old (H0 b) := fun b h => by
        by_cases hb : b = a
        · subst hb
          rw [upd_same, ← hins] at h
          exact (old_ins h rfl).elim
        · rw [upd_ne hb] at h; exact h
      have back : ∀ {S' H' : Hp}, Fwd S2 (upd H0 a ins2) S' H' → Fwd S0 H0 S' H' := fun {S' H'} f => by
        refine ⟨s02.trans f.s, fun b o h => f.h b o ?_, f.sub, fun b o hb n0 => ?_, (Tk.new H0a).trans f.tb⟩
        · have : b ≠ a := fun z => by rw [z, H0a] at h; cases h
          rw [upd_ne this]; exact h
        · cases h : S2 b with
          | some o' => exact new2 b o' h n0
          | none => exact old0 b (f.new b o hb h)
      have lj : (((r.set i (some (D.obj c' [] []))).set g1 (some (.lst []))).set g2 (some (.dk [] []))).length = r.length := by simp
      have sl : σ.length = r.length := ok.len
      refine ⟨some (.ref q), some (.ref p), q, p, v0, S2, upd H0 a ins2, S2, ((r.set i (some (.obj c' [] []))).set g1 (some (.lst []))).set g2 (some (.dk [] [])), ?_, ?_⟩
      · subst hins
        obtain ⟨n1, n2, n3⟩ := ne
        have il : i < r.length := (List.getElem?_eq_some_iff.mp hr).1
        refine env_j (gj q p v0) ⟨n1, n2, n3⟩ qp ⟨Ex.refl, fun b o h => ?_, w2.sub.put S2a, fun b o h n0 => (by rw [n0] at h; cases h), (Tk.un .ins).trans (ok1.fwd.tb.trans ((Tk.at Ha1 .ins).trans (w2.tb.trans (Tk.at Ha2 .ins))))⟩ (by simp [sl]) (fun j d h0 h1 h2 hj => ?_) ?_ ?_ hcn upd_same ?_ ?_ (by rw [upd_ne qa]; exact Hq2) S2q (by rw [upd_ne qa]; exact H0q) (.lst .nil) ?_ ?_ (by rw [upd_ne pa]; exact Hp') Sp (by rw [upd_ne pa]; exact H0p) (.dk rfl .nil) (fun P q z => (htb P q z).elim)
        · by_cases hb : b = a
          · subst hb; rw [upd_same] at h; exact .mk (by rw [upd_same]; exact h)
          · rw [upd_ne hb] at h; exact (hEx b o hb h).put hb
        · rw [List.getElem?_set_ne (Ne.symm h2), List.getElem?_set_ne (Ne.symm h1), List.getElem?_set_ne (Ne.symm h0)] at hj
          obtain ⟨u, u1, u2⟩ := ok.slot j d hj
          exact ⟨u, by rw [List.getElem?_set_ne (Ne.symm h2), List.getElem?_set_ne (Ne.symm h1)]; exact u1, (VB.of ((hk j h0).imp id fun z => z.1) u2).up (gk q p v0 j h0 h1 h2) (w1.s.trans w2.s) fun b o h => by
            have : b ≠ a := fun z => by rw [z, H0a] at h; cases h
            rw [upd_ne this]; exact h⟩
        · rw [List.getElem?_set_ne (Ne.symm n2), List.getElem?_set_ne (Ne.symm n1), List.getElem?_set_self il]
        · rw [List.getElem?_set_ne (Ne.symm n2), List.getElem?_set_ne (Ne.symm n1)]; exact sa
        · rw [List.getElem?_set_ne (Ne.symm n3), List.getElem?_set_self (by simpa using hl1)]
        · rw [List.getElem?_set_ne (Ne.symm n3), List.getElem?_set_self (by rw [sl]; exact hl1)]
        · rw [List.getElem?_set_self (by simpa using hl2)]; rfl
        · rw [List.getElem?_set_self (by simpa [sl] using hl2)]
      · cases hF : Fl (((r.set i (some (.obj c' [] []))).set g1 (some (.lst []))).set g2 (some (.dk [] []))) with
        | nx r' =>
          rw [hF] at pp
          intro σ' S' H' e'
          show Lo (fun H => sD c L G G' F E σ' H) H'
          dsimp only at pp
          split at pp
          · rename_i c2 ds ks vs ri r1 r2
            have GJ' := gj q p v0
            obtain ⟨u0, si, so⟩ := e'.slot i _ ri
            rw [GJ'.ki] at so
            obtain ⟨rfl, _⟩ := so
            obtain ⟨u1, s1, so1⟩ := e'.slot g1 _ r1
            rw [GJ'.k1] at so1
            obtain ⟨rfl, q', hoq, zq, q1, q2, q3, q4⟩ := so1
            cases zq
            obtain ⟨u2, s2, so2⟩ := e'.slot g2 _ r2
            rw [GJ'.k2] at so2
            obtain ⟨rfl, p', hop', zp, p1', p2', p3', p4'⟩ := so2
            cases zp
            cases q4 with | @lst xs _ rxs =>
            cases p4' with | @dk kvs _ _ hks' hvs' =>
            have Ha' : H' a = some ins2 := (e'.fwd.h a _ upd_same).of (by rw [← hins]; intro _ z; cases z)
            have S'a : S' a = none := by
              cases h : S' a with
              | none => rfl
              | some o => exact (old_ins (e'.fwd.new a o h S2a) (by rw [upd_same, ← hins])).elim
            refine .inr ⟨p, .dK kvs, p1', trivial, fun w => ?_⟩
            have exq : Ex S' (upd S' q (.lst xs)) := Ex.new q2
            have exp : Ex (upd S' q (.lst xs)) (upd (upd S' q (.lst xs)) p (.frz w (.dK kvs))) := Ex.new (by rw [upd_ne (Ne.symm qp)]; exact p2')
            have exS := exq.trans exp
            have fb := back e'.fwd
            obtain ⟨n1, n2, n3⟩ := ne
            have il : i < r'.length := (List.getElem?_eq_some_iff.mp ri).1
            refine ⟨S0, H0, upd (upd S' q (.lst xs)) p (.frz w (.dK kvs)), _, env_i ki ⟨fb.s.trans exS, fun b o h => ?_, fun b o h => ?_, fun b o h n0 => ?_, fb.tb.trans (Tk.at p1' .dK)⟩ (by simp [e'.len]) (fun j d h0 hj => ?_) ?_ si (ho := ins2) ?_ ?_ H0a (by rw [← hins]; exact .obj hcn rfl (.cons (Rp.mono (((w1.s.trans w2.s).trans e'.fwd.s).trans exS) hv0) (.cons (.lst (exp _ _ upd_same) (rxs.mono exS)) (.cons (.dk upd_same hks' (hvs'.mono exS)) .nil)))) (fun P q z => (htb P q z).elim), pp⟩
            · have : b ≠ p := fun z => by rw [z, H0p] at h; cases h
              exact (fb.h b o h).put this
            · by_cases hb : b = p
              · subst hb; rw [upd_same] at h; exact .mk (by rw [upd_same]; exact h)
              · rw [upd_ne hb] at h
                refine Nx.put ?_ hb
                by_cases hb2 : b = q
                · subst hb2; rw [upd_same] at h; cases h; exact .mk q1
                · rw [upd_ne hb2] at h; exact fb.sub b o h
            · by_cases hb : b = p
              · subst hb; exact .inl H0p
              · rw [upd_ne hb] at h
                by_cases hb2 : b = q
                · subst hb2; exact .inl H0q
                · rw [upd_ne hb2] at h; exact fb.new b o h n0
            · rcases set_some hj with ⟨_, z, _⟩ | ⟨mb, hj⟩
              · cases z
              rcases set_some hj with ⟨_, z, _⟩ | ⟨m2, hj⟩
              · cases z
              · rcases set_some hj with ⟨_, z, _⟩ | ⟨m1, hj⟩
                · cases z
                · rw [List.getElem?_set_ne (Ne.symm h0)] at hj
                  obtain ⟨u, z1, z2⟩ := e'.slot j d hj
                  have kg := gk q p v0 j h0 (Ne.symm m1) (Ne.symm m2)
                  rcases hk j h0 with kv | ⟨_, z⟩
                  · rw [kg, kv] at z2
                    exact ⟨u, z1, .inl ⟨kv, Rp.mono exS z2⟩⟩
                  · exact absurd z (Ne.symm mb)
            · rw [List.getElem?_set_ne (Ne.symm hib), List.getElem?_set_ne (Ne.symm n2), List.getElem?_set_ne (Ne.symm n1), List.getElem?_set_self il]; rfl
            · rw [upd_ne (Ne.symm pa)]; exact Ha'
            · rw [upd_ne (Ne.symm pa), upd_ne (Ne.symm qa)]; exact S'a
          · exact pp.elim
        | er r' m ns vs =>
          rw [hF] at pp
          intro C1 dd σ' S' H' fs' h1 fw _ h2 h3 h4
          exact pp C1 dd σ' S' H' fs' h1 (back fw) (fun g hg => absurd hg (hge g)) h2 h3 h4
        | rt d => rw [hF] at pp; exact pp.elim
        | bk r' => rw [hF] at pp; exact pp.elim
        | ct r' => rw [hF] at pp; exact pp.elim
        | bad => rw [hF] at pp; exact pp.elim
    · rw [if_neg hc] at pp; exact pp.elim
  · exact pp.elim
end
end Dx
end S_DxCK
section S_DxCL
set_option Elab.async false
set_option linter.all false
set_option maxRecDepth 100000
set_option maxHeartbeats 2000000
namespace Dx
open PySem L2
section
variable {X : Cx} {c : Cf} {L G : List Ow} {pos apos cpos : Pos}
theorem dLst_nil (r : Rho) : dLst dNil r = .ok (.lst []) := by
  show mkLst [] = _
  unfold mkLst
  exact guard_pos (Nat.zero_le _)
def revF (i : Nat) : Rho → SR := fun r => liftS r (ownL i r) fun ds => .nx (r.set i (some (.lst ds.reverse)))
theorem ds_rev (i : Nat) {x : Str} {pn : Pos} (k : kd G i = .o) (ho : PE X (.Name x pn) (tVar i))
    (hw : swapsWith (.Call (.Attribute (.Name x pn) "reverse" apos) [] [] cpos) none pos.line X.env = pure false := by rfl)
    (hbase : attributeBase (.Name x pn) "reverse" X.env (eval (.Name x pn) X.env) = eval (.Name x pn) X.env := by rfl) (hline : (apos.endLine == cpos.line) = true := by rfl) :
    PS X (.Expr (.Call (.Attribute (.Name x pn) "reverse" apos) [] [] cpos) pos) (sD c L G G (revF i)) := by
  refine ps_imp (ps_expr (pe_bm0 PySem.F.plainAttrs_list PySem.F.slot_list_reverse PySem.F.type_list_reverse mt_reverse ho hbase hline) hw) fun E σ H h => ?_
  obtain ⟨S0, H0, S, r, ok, p⟩ := h
  obtain ⟨q, xs, ds, hd, z1, z2, z3, p1⟩ := of_ownL ok k p
  exact ⟨.ref q, z1, .inl ⟨rfl, xs, .inl (.inl z2)⟩, q, xs, rfl, rfl, z2, p1 σ S _ (ok.mut k hd z1 (.lst z3.reverse))⟩
end
section
variable {r : Rho} {i g g1 g2 jb : Nat} {n f0 fl1 fl2 : Str} {f fk : Rho → Res D} {Fl F : Rho → SR} {N B C : Rho → Prop} {R : D → Prop} {E : Rho → Str → List Str → List D → Prop}
theorem ss_rev {ds : List D} (h1 : r[i]? = some (some (.lst ds))) (h : N (r.set i (some (.lst ds.reverse)))) : Ss (revF i r) N R B C E := by
  refine ss_lift (Rs.of (a := ds) ?_ h)
  unfold ownL; rw [h1]
theorem jIs_of (h : r[i]? = some (some (.obj n [] []))) : jIs i n r = .ok () := by
  unfold jIs
  rw [h]
  exact if_pos rfl
theorem rs_jf {d : D} {P : D → Prop} {EE : Str → List Str → List D → Prop} (h0 : r[i]? = some (some (.obj n [] []))) (h1 : r[g]? = some (some d)) (h : P d) : Rs (dJf i g n r) P EE := by
  unfold dJf
  rw [jIs_of h0]
  show Rs (dVar g r) P EE
  exact Rs.of (a := d) (by unfold dVar; rw [h1]) h
theorem ss_appJ (h0 : r[i]? = some (some (.obj n [] []))) (h : Ss (appF g f r) N R B C E) : Ss (appJF i g n f r) N R B C E := by
  unfold appJF
  rw [jIs_of h0]
  exact h
theorem ss_putJ (h0 : r[i]? = some (some (.obj n [] []))) (h : Ss (Dx.putF g fk f r) N R B C E) : Ss (putJF i g n fk f r) N R B C E := by
  unfold putJF
  rw [jIs_of h0]
  exact h
theorem ss_gram {d0 : D} {ds : List D} {ks : List Key} {vs : List D} {r' : Rho} (h0 : r[i]? = some (some (.obj n [f0] [d0]))) (l1 : g1 < r.length) (l2 : g2 < r.length) (hF : Fl (((r.set i (some (.obj n [] []))).set g1 (some (.lst []))).set g2 (some (.dk [] []))) = .nx r')
    (q0 : ∃ m, r'[i]? = some (some (.obj m [] []))) (q1 : r'[g1]? = some (some (.lst ds))) (q2 : r'[g2]? = some (some (.dk ks vs))) (h : Ss (F ((((r'.set i (some (.obj n [f0, fl1, fl2] [d0, .lst ds, .dk ks vs]))).set g1 none).set g2 none).set jb none)) N R B C E) : Ss (gramS i g1 g2 jb n f0 fl1 fl2 Fl F r) N R B C E := by
  unfold gramS
  rw [h0]
  dsimp only
  rw [if_pos ⟨rfl, rfl, l1, l2⟩, hF]
  dsimp only
  obtain ⟨m, q0⟩ := q0
  rw [q0, q1, q2]
  exact h
end
end Dx
end S_DxCL
section S_DxCM
set_option Elab.async false
set_option linter.all false
set_option maxRecDepth 100000
set_option maxHeartbeats 2000000
namespace Dx
open PySem PySem.Spec L2 ItX PyProof.Rows
end Dx
end S_DxCM
section S_DxCN
set_option Elab.async false
set_option linter.all false
set_option maxRecDepth 100000
set_option maxHeartbeats 2000000
namespace Dx
open PySem PySem.Spec L2 PyProof.Rows
end Dx
end S_DxCN
section S_DxCO
set_option Elab.async false
set_option linter.all false
set_option maxRecDepth 100000
set_option maxHeartbeats 2000000
namespace Dx
open PySem L2
end Dx
end S_DxCO
section S_DxCP
set_option Elab.async false
set_option linter.all false
set_option maxRecDepth 100000
set_option maxHeartbeats 2000000
namespace Dx
open PySem L2
end Dx
end S_DxCP
section S_DxCQ
set_option Elab.async false
set_option linter.all false
set_option maxRecDepth 100000
set_option maxHeartbeats 2000000
namespace Dx
open PySem L2 PyProof.Rows
/-- H1 is H, or H with a new code object in the table at P -/
def LamK (P : Addr) (q : Str) (H H1 : Hp) : Prop := H1 = H ∨ ∃ ps ps' cN, H P = some (.tbl ps) ∧ H cN = none ∧ H1 = upd (upd H P (.tbl ps')) cN (LamX.CodeO cN q) ∧ LamX.TabS H1 P q
theorem LamK.nx {P : Addr} {q : Str} {H H1 : Hp} (k : LamK P q H H1) : Ex H H1 := fun a o e => by
  rcases k with rfl | ⟨ps, ps', cN, h1, h2, rfl, h3⟩
  · exact .mk e
  · have n1 : a ≠ cN := fun z => by rw [z, h2] at e; cases e
    by_cases hp : a = P
    · subst hp
      rw [h1] at e
      cases e
      exact ⟨ps', by rw [upd_ne n1, upd_same]⟩
    · exact .mk (by rw [upd_ne n1, upd_ne hp]; exact e)
end Dx
end S_DxCQ
section S_DxCR
set_option Elab.async false
set_option linter.all false
set_option maxRecDepth 100000
set_option maxHeartbeats 2000000
namespace Dx
open PySem L2
end Dx
end S_DxCR
section S_DxCS
set_option Elab.async false
set_option linter.all false
set_option maxRecDepth 100000
set_option maxHeartbeats 2000000
namespace Dx
open PySem L2 PyProof.Rows
mutual
def toP : D → Option PyData
  | .int i => some (.int i)
  | .bl b => some (.bool b)
  | .str z => some (.str z)
  | .tup ds => (toPs ds).map .tuple
  | .kt ds => (toPs ds).map .tuple
  | _ => none
def toPs : List D → Option (List PyData)
  | [] => some []
  | d :: ds => match toP d, toPs ds with
    | some p, some ps => some (p :: ps)
    | _, _ => none
end
def enD (d : D) : PyData := (toP d).getD .none
def isRow (d : D) : Bool := match toP d with
  | some (.tuple (_ :: _)) => decide ((enD d).depth ≤ 24)
  | _ => false
def goodS (ds : List D) : Bool := ds.all isRow && ds.all fun d => ds.all fun e => PySem.W.alike (enD d) (enD e)
noncomputable def sortDatD (b : Bool) : D → Res D
  | .lst ds => if goodS ds = true then .ok (.lst (ds.mergeSort (PySem.W.dataLe b enD))) else .bad
  | _ => .bad
section
variable {X : Cx} {c : Cf} {k : Nat} {pins : List (Addr × Obj)} {σ : L2.St} {S H : Hp} {s : Shared} {cm : CM}
mutual
theorem reads_of (I : Inv X pins σ H s) (ex : Ex S H) : ∀ {d : D} {v : V} {u : Value} {p : PyData}, Rp X.K cm S v d → toP d = some p → RelV v u → ∃ as, Reads s.heap u p as
  | .int _, _, _, _, h, e, r => by cases h; cases e; obtain ⟨t, rfl⟩ := r; exact ⟨_, .int _ _⟩
  | .bl _, _, _, _, h, e, r => by cases h; cases e; cases r; exact ⟨_, .bool _⟩
  | .str _, _, _, _, h, e, r => by cases h; cases e; obtain ⟨t, rfl⟩ := r; exact ⟨_, .str _ _⟩
  | .tup ds, _, _, _, h, e, r => by
    cases h with | @tup a xs _ q rr =>
    cases r
    unfold toP at e
    cases hp : toPs ds with
    | none => rw [hp] at e; cases e
    | some ps =>
      rw [hp] at e; cases e
      obtain ⟨its, rv, ⟨o, h1, h2, n, h3⟩, _⟩ := I.tuple (.inl (.inl (ex _ _ q)))
      obtain ⟨as, ra⟩ := readsAll_of I ex rr hp rv
      exact ⟨as, .tuple h1 h2 h3 (by simpa using ra)⟩
  | .kt ds, _, _, _, h, e, r => by
    cases h with | @kt a xs _ q rr =>
    cases r
    unfold toP at e
    cases hp : toPs ds with
    | none => rw [hp] at e; cases e
    | some ps =>
      rw [hp] at e; cases e
      obtain ⟨its, rv, ⟨o, h1, h2, n, h3⟩, _⟩ := I.tuple (ex.t q)
      obtain ⟨as, ra⟩ := readsAll_of I ex rr hp rv
      exact ⟨as, .tuple h1 h2 h3 (by simpa using ra)⟩
theorem readsAll_of (I : Inv X pins σ H s) (ex : Ex S H) : ∀ {ds : List D} {vs : List V} {us : List Value} {ps : List PyData}, RpA X.K cm S vs ds → toPs ds = some ps → Vals vs us → ∃ as, ReadsAll s.heap us ps as
  | [], _, _, _, h, e, r => by cases h; cases e; cases r; exact ⟨_, .nil⟩
  | d :: ds, _, _, _, h, e, r => by
    cases h with | cons h1 h2 =>
    cases r with | cons r1 r2 =>
    unfold toPs at e
    split at e
    · rename_i p ps e1 e2
      cases e
      obtain ⟨as, a1⟩ := reads_of I ex h1 e1 r1
      obtain ⟨bs, a2⟩ := readsAll_of I ex h2 e2 r2
      exact ⟨_, .cons a1 a2⟩
    · cases e
end
def rSortDat (K : PySem.W.Frag) (cm : CM) (b : Bool) : List V → Hp → VK → Prop := fun vs H Q => ∃ (S : Hp) (a : Addr) (xs : List V) (ds : List D), vs = [.ref a] ∧ Ex S H ∧ SqL K H a xs ∧ RpA K cm S xs ds ∧ goodS ds = true ∧
  ∀ l ys, RpA K cm S ys (ds.mergeSort (PySem.W.dataLe b enD)) → H l = none → Q (.ref l) (upd H l (.lst ys))
theorem each_of : ∀ {vs : List V} {us : List Value} {ds : List D}, Vals vs us → RpA X.K cm S vs ds → PySem.W.EachIs (fun (u : Value) (d : D) => ∃ v, RelV v u ∧ Rp X.K cm S v d) us ds
  | _, _, _, .nil, .nil => .nil
  | _, _, _, .cons a b, .cons h t => .cons ⟨_, a, h⟩ (each_of b t)
theorem of_each {us : List Value} {ds : List D} (e : PySem.W.EachIs (fun (u : Value) (d : D) => ∃ v, RelV v u ∧ Rp X.K cm S v d) us ds) : ∃ vs, Vals vs us ∧ RpA X.K cm S vs ds := by
  induction e with
  | nil => exact ⟨[], .nil, .nil⟩
  | cons h t ih =>
    obtain ⟨v, h1, h2⟩ := h
    obtain ⟨vs, g1, g2⟩ := ih
    exact ⟨v :: vs, .cons h1 g1, .cons h2 g2⟩
theorem sortDat_run {b : Bool} {E : Value → Shared → Prop} {Q : VK} {vs : List V} {us : List Value} (hr : Room k X.A) (I : Inv X pins σ H s) (r : Vals vs us) (h : rSortDat X.K cm b vs H Q) :
    wpAny (model X.prog X.w) X.A (call (.builtin "sorted") us [(Str.ofString "reverse", .bool b)]) (EP X pins σ Q) E s ∧ (b = false → wpAny (model X.prog X.w) X.A (call (.builtin "sorted") us) (EP X pins σ Q) E s) := by
  obtain ⟨S, a, xs, ds, rfl, ex, hl, rr, hg, fin⟩ := h
  obtain ⟨u, rfl, ru⟩ := r.one
  cases ru
  obtain ⟨its, rv, li, hz⟩ := I.list hl
  have hlen : its.length = ds.length := by rw [← rv.length]; exact rr.length
  have hzl : ds.length ≤ sizeLine := by rw [← rr.length]; exact hz
  unfold goodS at hg
  obtain ⟨g1, g2⟩ := Bool.and_eq_true_iff.mp hg
  have row : ∀ d ∈ ds, ∃ x xs, toP d = some (.tuple (x :: xs)) ∧ (enD d).depth ≤ 24 := fun d hd => by
    have z := List.all_eq_true.mp g1 d hd
    unfold isRow at z
    split at z
    · rename_i x xs e
      exact ⟨x, xs, e, by simpa using z⟩
    · cases z
  have e := each_of rv rr
  have er : PySem.W.EachIs (fun v d => ∃ as, Reads s.heap v (enD d) as) its ds := by
    refine (PySem.W.each_mem e).mono fun u d ⟨⟨v, h1, h2⟩, hd⟩ => ?_
    obtain ⟨x, xs, e1, _⟩ := row d hd
    obtain ⟨as, ra⟩ := reads_of I ex h2 e1 h1
    refine ⟨as, ?_⟩
    unfold enD
    rw [e1]
    exact ra
  have hal : PySem.W.AllAlike (ds.map enD) := fun p hp q hq => by
    obtain ⟨d, hd, rfl⟩ := List.mem_map.mp hp
    obtain ⟨d', hd', rfl⟩ := List.mem_map.mp hq
    exact List.all_eq_true.mp (List.all_eq_true.mp g2 d hd) d' hd'
  have hk : PySem.W.Sortable (ds.map enD) := .inl fun p hp => by
    obtain ⟨d, hd, rfl⟩ := List.mem_map.mp hp
    obtain ⟨x, xs, e1, _⟩ := row d hd
    exact ⟨x, xs, by unfold enD; rw [e1]; rfl⟩
  have hu : ∀ d, d ∈ ds → X.A.units + 2 + (enD d).depth < cLine := fun d hd => by
    obtain ⟨_, _, _, z⟩ := row d hd
    have := hr.un
    omega
  have close : ∀ out : List Value, out.length = ds.length → PySem.W.EachIs (fun (u : Value) (d : D) => ∃ v, RelV v u ∧ Rp X.K cm S v d) out (ds.mergeSort (PySem.W.dataLe b enD)) → EP X pins σ Q (.ref (s.heap.objs.size + 1)) { s with heap := sortedAll s.heap its (List.toArray out) } := fun out hol eo => by
    obtain ⟨ys, y1, y2⟩ := of_each eo
    obtain ⟨n, hn⟩ := sortedAll_at s.heap its out.toArray
    refine ⟨.ref (s.heap.objs.size + 1), _, I.laid (t' := s.toks) (o := .lst ys) (fun b o e => sortedAll_old e) (Nat.le_succ _) ⟨?_, out, n, y1, hn⟩, rfl, fin _ ys y2 (I.hok.fresh (Nat.le_succ _))⟩
    rw [y1.length, hol]; exact hzl
  refine ⟨PySem.W.sorted_rev_data li.isList e er hal hk hzl hu close, fun hb => ?_⟩
  subst hb
  exact PySem.W.sorted_data li.isList e er hal hk hzl hu close
theorem cr_sortDat (hr : Room k X.A) : CallR X (.builtin "sorted") (rSortDat X.K cm false) := fun pins s σ H vs us Q I r h => (sortDat_run hr I r h).2 rfl
theorem cs_sortDat {b : Bool} : CallS c (mO c) (rSortDat c.K c.cm b) [true] (g1 (sortDatD b)) := by
  intro σ S H vs ds Q ex m p
  obtain ⟨v, d, rfl, rfl, h⟩ := m.one
  replace p : PostG c σ S H (sortDatD b d) (fun a S' H' => ∀ b, mO c H S' H' b a → Q b H') := p
  cases d with
  | lst ds =>
    unfold sortDatD at p
    dsimp only at p
    split at p
    · rename_i hg
      obtain ⟨q, xs, rfl, a1, r1⟩ := h.list ex
      exact ⟨S, q, xs, ds, rfl, ex, .inl (.inl a1), r1, hg, fun l ys hy hl => PostG.kept p ex hl (.lst hy)⟩
    · exact p.elim
  | _ => exact p.elim
variable {G : List Ow} {a : Expr} {f : Rho → Res D} {p pos kp cp : Pos} {j : Nat}
end
end Dx
end S_DxCS
section S_DxCT
set_option Elab.async false
set_option linter.all false
set_option maxRecDepth 100000
set_option maxHeartbeats 2000000
namespace Dx
open PySem L2
end Dx
end S_DxCT
section S_DxCU
set_option Elab.async false
set_option linter.all false
set_option maxRecDepth 100000
set_option maxHeartbeats 2000000
namespace Dx
open PySem L2
section
variable {X : Cx} {c : Cf} {G : List Ow} {e : Expr} {es : List Expr} {pos p : Pos} {x : Str} {k : Nat} {f : Addr} {fd : FuncData} {ps : List Str} {ms ms2 : List Bool} {rm : Bool} {F : List D → Res D} {fs : Rho → Res (List D)}
theorem RpM.app {S H : Hp} : ∀ {ms ms2 : List Bool} {vs vs2 : List V} {ds ds2 : List D}, RpM c S H ms vs ds → RpM c S H ms2 vs2 ds2 → RpM c S H (ms ++ ms2) (vs ++ vs2) (ds ++ ds2)
  | [], _, [], _, [], _, _, h => h
  | true :: ms, _, v :: vs, _, d :: ds, _, h, k => ⟨h.1, RpM.app h.2 k⟩
  | false :: ms, _, v :: vs, _, d :: ds, _, h, k => ⟨h.1, RpM.app h.2 k⟩
  | [], _, _ :: _, _, _, _, h, _ => h.elim
  | [], _, [], _, _ :: _, _, h, _ => h.elim
  | true :: _, _, [], _, _, _, h, _ => h.elim
  | true :: _, _, _ :: _, _, [], _, h, _ => h.elim
  | false :: _, _, [], _, _, _, h, _ => h.elim
  | false :: _, _, _ :: _, _, [], _, h, _ => h.elim
end
end Dx
end S_DxCU
section S_DxCV
set_option Elab.async false
set_option linter.all false
set_option maxRecDepth 100000
set_option maxHeartbeats 2000000
namespace Dx
open PySem L2 HandSPX
open PyProof.Rows hiding St
open GenW
end Dx
end S_DxCV
section S_DxCW
set_option Elab.async false
set_option linter.all false
set_option maxRecDepth 100000
set_option maxHeartbeats 2000000
namespace Dx
open PySem L2
end Dx
end S_DxCW
section S_DxCX
set_option Elab.async false
set_option linter.all false
set_option maxRecDepth 100000
set_option maxHeartbeats 2000000
namespace Dx
open PySem L2
end Dx
end S_DxCX
section S_DxCY
set_option Elab.async false
set_option linter.all false
set_option maxRecDepth 100000
set_option maxHeartbeats 2000000
namespace Dx
open PySem L2
def ltOk (p q : PyData) : Bool := PySem.W.alike p q && (match p with | .none => false | _ => true) && decide (min p.depth q.depth ≤ 64)
def ltDD (d e : D) : Res D := match toPy d, toPy e with
  | some p, some q => if ltOk p q = true then .ok (.bl (PySem.W.dataLt p q)) else .bad
  | _, _ => .bad
section
variable {X : Cx} {c : Cf}
def rLtD (K : PySem.W.Frag) : R2 := fun x y H Q => ∃ d e, Dp K H x d ∧ Dp K H y e ∧ ltOk d e = true ∧ Q (.bl (PySem.W.dataLt d e)) H
theorem op_ltD (hu : X.A.units + 64 < cLine) : OpR X (compareOp .Lt) (rLtD X.K) := by
  intro pins s σ H x y v u Q I rx ry h
  obtain ⟨d, e, hd, he, hk, q⟩ := h
  obtain ⟨as, r1⟩ := Dp.reads I d x v hd rx
  obtain ⟨bs, r2⟩ := Dp.reads I e y u he ry
  unfold ltOk at hk
  rw [Bool.and_eq_true, Bool.and_eq_true] at hk
  obtain ⟨⟨k1, k2⟩, k3⟩ := hk
  have k3 := of_decide_eq_true k3
  exact PySem.W.rcLt_alike d e X.A s v u as bs r1 r2 k1 (fun z => by rw [z] at k2; cases k2) (by omega) X.prog X.w X.xe (EP X pins σ Q) ⟨.bl _, H, I, rfl, q⟩
theorem os_ltD : OpS c (mV c) (rLtD c.K) ltDD := by
  intro σ S H x y d e Q ex hx hy p
  unfold ltDD at p
  split at p
  · rename_i u v h1 h2
    by_cases hk : ltOk u v = true
    · rw [if_pos hk] at p
      exact ⟨u, v, hx.dp ex h1, hy.dp ex h2, hk, p.here ex (.bl _)⟩
    · rw [if_neg hk] at p
      exact p.elim
  · exact p.elim
theorem rs_ltDD {d e : D} {p q : PyData} {Q : D → Prop} {E : Str → List Str → List D → Prop} (h1 : toPy d = some p) (h2 : toPy e = some q) (h3 : ltOk p q = true) (z : Q (.bl (PySem.W.dataLt p q))) : Rs (ltDD d e) Q E := by
  unfold ltDD
  rw [h1, h2]
  dsimp only
  rw [if_pos h3]
  exact z
end
end Dx
end S_DxCY
section S_DxCZ
set_option Elab.async false
set_option linter.all false
set_option maxRecDepth 100000
set_option maxHeartbeats 2000000
namespace Dx
open PySem L2 ItX
section
variable {X : Cx} {c : Cf} {L G G' : List Ow} {e a b : Expr} {rest : List Expr} {pos p : Pos} {t1 : Rho → Res Bool} {t2 t3 : Rho → Res (Bool × Rho)} {σ : St} {H : Hp}
theorem set_there {α : Type} {xs : List α} {i : Nat} {x : α} (h : xs[i]? = some x) : xs.set i x = xs := by
  apply List.ext_getElem?
  intro j
  by_cases e : i = j
  · subst e
    rw [List.getElem?_set_self (List.getElem?_eq_some_iff.mp h).1, h]
  · rw [List.getElem?_set_ne e]
/-- the own object in slot i has changed -/
theorem EnvOk.back {S0 H0 S H S' H' : Hp} {r : Rho} {i : Nat} {d d' : D} {x : Addr} {o' : HO} (ok : EnvOk c S0 H0 G S H σ r) (kk : kd G i = .o) (hr : r[i]? = some (some d)) (hs : σ[i]? = some (some (.ref x))) (sx : S x = none) (hx0 : H0 x = none) (fw : Fwd S (rem H x) S' (rem H' x)) (hx' : H' x = some o') (sx' : S' x = none) (ho' : RpO c.K c.cm S' o' d') : EnvOk c S0 H0 G S' H' σ (r.set i (some d')) := by
  have e1 := (ok.take kk hr hs sx hx0).go fw
  have hH : upd (rem H' x) x o' = H' := rem_put hx'
  have exS : Ex S' H' := fun a u h => by
    have h2 := fw.sub a u h
    have ha : a ≠ x := fun z => by subst z; rw [sx'] at h; cases h
    exact h2.at (rem_ne ha).symm
  have f2 : Fwd S' (rem H' x) S' H' := by
    have e1 : Ex (rem H' x) H' := by have := Ex.new (H := rem H' x) (p := x) (o := o') rem_same; rw [hH] at this; exact this
    have tk : Tk (rem H' x) H' := by have := Tk.new (H := rem H' x) (p := x) (o := o') rem_same; rw [hH] at this; exact this
    exact ⟨Ex.refl, e1, exS, fun a o h n => (by rw [n] at h; cases h), tk⟩
  have hi : i < G.length := Nat.lt_of_not_le fun z => by
    have : kd G i = .v := by
      show G.getD i .v = .v
      rw [List.getD_eq_getElem?_getD, List.getElem?_eq_none z]; rfl
    rw [this] at kk; cases kk
  have e2 := e1.setO f2 i (by rw [List.length_set]; exact hi) rem_same sx' hx' ho'
  rw [set_kd kk, List.set_set, set_there hs] at e2
  exact e2
end
end Dx
end S_DxCZ
section S_DxDA
set_option Elab.async false
set_option linter.all false
set_option maxRecDepth 100000
set_option maxHeartbeats 2000000
namespace Dx
open PySem L2
open PyProof.Rows hiding St
open GenW
def GivesS (c : Cf) (S' : Hp) (J : It) (ds : List D) : Prop := ∃ Gd Y, Walk J ds.length Gd Y ∧ (∀ S'' H'', Ex S' S'' → Ex S'' H'' → Gd H'') ∧ YOk c S' ds Y
def iS (c : Cf) (G : List Ow) (f : Rho → Res (List D)) : TI := fun σ H R => ∃ S0 H0 S r, EnvOk c S0 H0 G S H σ r ∧ PostG c σ S H (f r) fun ds S' H' => ∀ J, GivesS c S' J ds → R J H'
section
variable {X : Cx} {c : Cf} {G : List Ow} {tg e a : Expr} {pos p : Pos} {f : Rho → Res D}
theorem givesS_list {S : Hp} {q : Addr} {xs : List V} {ds : List D} (h : SqL c.K S q xs) (rr : RpA c.K c.cm S xs ds) : GivesS c S (Itl c.K q) ds := by
  refine ⟨_, _, by rw [← rr.length]; exact walk_list (K := c.K) (a := q) (xs := xs), fun S'' H'' e1 e2 => e2.l (e1.l h), fun i S1 H1 x H2 hi e1 e2 y => ?_⟩
  obtain ⟨rfl, hx⟩ := y
  obtain ⟨d, h1, h2⟩ := rr.getV hx
  exact ⟨S1, d, Fwd.refl e2, h1, h2.mono e1⟩
theorem is_list (he : PE X e (tV c G f)) (hK : c.K = X.K := by rfl) : PI X tg e (iS c G (dIt itemsL f)) := pi_imp (pi_list he) fun σ H R ⟨S0, H0, S, r, ok, p⟩ => rd_seq ok p fun d v S1 H1 w1 o1 m1 p1 => by
  rw [← hK]
  cases d with
  | lst ds =>
    cases m1 with | @lst q xs _ h rr =>
    exact ⟨q, rfl, ⟨xs, .inl (.inl (o1.ex _ _ h))⟩, p1.go o1.ex _ (givesS_list (.inl (.inl h)) rr)⟩
  | fz ds =>
    cases m1 with | @fz q xs _ h rr =>
    exact ⟨q, rfl, ⟨xs, o1.ex.l h⟩, p1.go o1.ex _ (givesS_list h rr)⟩
  | _ => exact p1.elim
end
theorem piece3 {α β : Type} {X : Cx} {M : Model} {m : Sem α} {f : α → Sem β} {s : Shared} {P : α → Prop} {Q : α → β → Shared → Prop} {E : Value → Shared → Prop} (hb : AllBare s.gens) (h : wpAny M X.A m (fun a s1 => P a ∧ wpAny M X.A (f a) (Q a) E s1) E (dead (fun _ => False) s)) :
    wpAny M X.A m (fun a s1 => P a ∧ wpAny M X.A (f a) (fun b s' => ∃ s2, s' = rest (sleeps (fun _ => False) s.gens) s2 ∧ DeadAt (sleeps (fun _ => False) s.gens) s2 ∧ Q a b s2 ∧ KeptG (fun _ => False) s s' ∧ s.gens.size ≤ s'.gens.size ∧ GoneN s s')
      (fun x s' => ∃ s2, E x s2) s1) (fun x s' => ∃ s2, E x s2) s := by
  have hsz : (dead (fun _ => False) s).gens.size = s.gens.size := by
    show (s.gens.mapIdx _).size = _
    rw [Array.size_mapIdx]
  have h1 : wpAny M X.A m (fun a z => (s.gens.size ≤ z.gens.size ∧ GoneN s z) ∧ P a ∧ wpAny M X.A (f a) (fun b y => (s.gens.size ≤ y.gens.size ∧ GoneN s y) ∧ Q a b y) E z) E (dead (fun _ => False) s) := by
    have z := wpAny_nb h
    refine wpAny_gsz (n := s.gens.size) (by rw [hsz]; exact Nat.le_refl _) (wpAny_mono z (fun a y q k => ?_) fun _ _ q _ => q)
    have g1 : GoneN s y := (GoneN.same rfl).trans q.1
    refine ⟨⟨k, g1⟩, q.2.1, wpAny_gsz (n := s.gens.size) k (wpAny_mono (wpAny_nb q.2.2) (fun b y2 q2 k2 => ⟨⟨k2, g1.trans q2.1⟩, q2.2⟩) fun _ _ q _ => q)⟩
  refine wpAny_kept (fun _ => False) (fun _ _ z => z.elim) h1 (fun a s2 d n q k => ⟨q.2.1, ?_⟩) fun x s2 d n q k => ⟨s2, q⟩
  refine wpAny_mono (wpAny_swap d n q.2.2) (fun b s' ⟨s3, e3, d3, n3, q3⟩ => ?_) fun x s' ⟨s3, _, _, _, q3⟩ => ⟨s3, q3⟩
  subst e3
  exact ⟨s3, rfl, d3, q3.2, back_kept d3, by rw [rest_size]; exact q3.1.1, q3.1.2.trans (GoneN.same rfl)⟩
theorem piece2 {α β : Type} {X : Cx} {M : Model} {m : Sem α} {f : α → Sem β} {s : Shared} {Q : β → Shared → Prop} {E : Value → Shared → Prop} (hb : AllBare s.gens) (h : wpAny M X.A m (fun a s1 => wpAny M X.A (f a) Q E s1) E (dead (fun _ => False) s)) :
    wpAny M X.A m (fun a s1 => wpAny M X.A (f a) (fun b s' => ∃ s2, s' = rest (sleeps (fun _ => False) s.gens) s2 ∧ DeadAt (sleeps (fun _ => False) s.gens) s2 ∧ Q b s2 ∧ KeptG (fun _ => False) s s' ∧ s.gens.size ≤ s'.gens.size ∧ GoneN s s')
      (fun x s' => ∃ s2, E x s2) s1) (fun x s' => ∃ s2, E x s2) s := by
  have hsz : (dead (fun _ => False) s).gens.size = s.gens.size := by
    show (s.gens.mapIdx _).size = _
    rw [Array.size_mapIdx]
  have h1 : wpAny M X.A m (fun a z => (s.gens.size ≤ z.gens.size ∧ GoneN s z) ∧ wpAny M X.A (f a) (fun b y => (s.gens.size ≤ y.gens.size ∧ GoneN s y) ∧ Q b y) E z) E (dead (fun _ => False) s) := by
    have z := wpAny_nb h
    refine wpAny_gsz (n := s.gens.size) (by rw [hsz]; exact Nat.le_refl _) (wpAny_mono z (fun a y q k => ?_) fun _ _ q _ => q)
    have g1 : GoneN s y := (GoneN.same rfl).trans q.1
    refine ⟨⟨k, g1⟩, wpAny_gsz (n := s.gens.size) k (wpAny_mono (wpAny_nb q.2) (fun b y2 q2 k2 => ⟨⟨k2, g1.trans q2.1⟩, q2.2⟩) fun _ _ q _ => q)⟩
  refine wpAny_kept (fun _ => False) (fun _ _ z => z.elim) h1 (fun a s2 d n q k => ?_) fun x s2 d n q k => ⟨s2, q⟩
  refine wpAny_mono (wpAny_swap d n q.2) (fun b s' ⟨s3, e3, d3, n3, q3⟩ => ?_) fun x s' ⟨s3, _, _, _, q3⟩ => ⟨s3, q3⟩
  subst e3
  exact ⟨s3, rfl, d3, q3.2, back_kept d3, by rw [rest_size]; exact q3.1.1, q3.1.2.trans (GoneN.same rfl)⟩
section
variable {C : GCt} {L G G' : List Ow} {b : GB}
/-- the iterator's own objects, as they stand pinned -/
theorem fp_of {X : Cx} {ip : List (Addr × Obj)} {fp : List Addr} {σ : L2.St} {H : Hp} {s : Shared} {hp : Heap} (I : Inv X (ip ++ pinsAt fp hp) σ H s) (ho : ∀ b ∈ fp, ∃ o, hp.get? b = some o) (hy : ∀ b ∈ fp, (b ∈ X.ex ∨ X.s_0.heap.objs.size ≤ b) ∧ (∀ x c, X.env.cells.lookup x = some c → c ≠ b) ∧ ∀ p ∈ X.pn ++ ip, p.1 ≠ b) : ∀ b ∈ fp, FpOk X ip H b := fun b hb => by
  obtain ⟨o, e⟩ := ho b hb
  obtain ⟨_, p2, p3, p4, _⟩ := I.pin (b, o) (List.mem_append_right _ (List.mem_append_right _ (mem_pinsAt hb e)))
  exact ⟨p2, p3, p4, (hy b hb).1, (hy b hb).2.1, (hy b hb).2.2⟩
theorem gs_for {tg iter : Expr} {body : List Stmt} {pos : Pos} {its : Rho → Res (List D)} {ks : List Nat} {t : D → Rho → Res Rho} {F : Rho → List D × SR} (hsc : NoCell C.scope) (hi : ∀ b, C.Ok b → PI (C.X b) tg iter (iS C.cf G its)) (ht : ∀ b, C.Ok b → PG (C.X b) tg (gD C.cf G G' ks t)) (hb : GStms C G G' G body F)
    (hs : ∀ x, foldedSetIterable iter C.env x = pure x := by intro _; rfl) : GStm C L G G (.For tg iter body [] pos) (forGG its t F) := by
  intro Sf ip gl b s r ys o ds c fs K' J gd lv ok pos hF oo hst kon
  unfold forGG liftG at hF
  cases hits : its r with
  | err n ns vs => rw [hits] at hF; cases hF; exact oo.elim
  | bad => rw [hits] at hF; cases hF; exact oo.elim
  | ok items =>
    rw [hits] at hF
    dsimp only at hF
    obtain ⟨σ, S, H, I, e, g0, hip, nb, hfl⟩ := hst
    refine gr_for (Xe := fun x _ => ∃ z, (C.X b).xe x z) (fun x z t ⟨y, q⟩ => gx ok pos q) pos.gd ?_ hs
    rw [pos.over, ← ok.A, ← ok.env]
    refine wpAny_mono (piece2 I.bare ((hi b ok).run ip _ σ H (fun J H' => ∃ S', Fwd S H S' H' ∧ GivesS C.cf S' J items) (I.deadG _) ⟨b.S, b.H, S, r, e, by
      rw [hits]
      exact fun S' H' fw J hJ => ⟨S', fw, hJ⟩⟩)) (fun v s1 q => wpAny_mono q (fun itv s1 q => ?_) fun x _ ⟨s2, q⟩ => ⟨s2, q⟩) fun x _ ⟨s2, q⟩ => ⟨s2, q⟩
    obtain ⟨s2, e2, dd, ⟨it, fp, tn, J1, H1, rfl, I1, T, st1, f1, S1, fw, Gd, Y, wk, hG, hY⟩, kpt, hsz, nb1⟩ := q
    intro k0 l p kp hk0
    have pl : GPos C (.forLoop tg (.ref it) body [] C.env) (.ret k0 none false l c p kp :: fs) id := gpos_loop pos rfl rfl
    have I3 : Inv (C.X b) ip σ H1 s1 := by rw [e2]; exact I1.restG dd I.bare
    have st3 : tn 0 s1.heap := by rw [e2]; exact st1
    have noc : ∀ (B : GB) x c, (C.X B).env.cells.lookup x = some c → False := fun B x c h => by
      have e : (C.X B).env.cells = cellsFrom ((cutH C.n0 B.s.heap).objs.size + 1) C.scope.names [] := rfl
      rw [e, nocells _ _ hsc] at h
      cases h
    have old : ∀ q ∈ fp, C.n0 ≤ q := fun q hq => by
      rcases (f1 q hq).2.2.2.1 with z | z
      · exact absurd (show q ∈ ([] : List Addr) from z) (by simp)
      · have h1 : (cutH C.n0 b.s.heap).objs.size ≤ q := z
        rw [cut_size ok.sz] at h1
        exact h1
    have npn : ∀ q ∈ fp, ∀ y ∈ C.pn ++ ip, y.1 ≠ q := fun q hq => (f1 q hq).2.2.2.2.2
    have yg : ∀ {b' : GB}, C.Ok b' → ∀ q ∈ fp, (q ∈ (C.X b').ex ∨ (C.X b').s_0.heap.objs.size ≤ q) ∧ (∀ x c, (C.X b').env.cells.lookup x = some c → c ≠ q) ∧ ∀ y ∈ (C.X b').pn ++ ip, y.1 ≠ q := fun {b'} ok' q hq => ⟨.inr (by
      show (cutH C.n0 b'.s.heap).objs.size ≤ q
      rw [cut_size ok'.sz]
      exact old q hq), fun x c h => (noc b' x c h).elim, npn q hq⟩
    have loop : ∀ (j : Nat) (b : GB) (s : Shared) (r : Rho) (ys : List D), C.Ok b → j ≤ items.length → loopG t F (items.drop j) r = (ys, o) → (∃ σ S H, Inv (C.X b) ip σ H s ∧ EnvOk C.cf b.S b.H G S H σ r ∧ Ex S1 S ∧ Ex Sf S ∧ GlOk b gl s ∧ tn j s.heap ∧ (∀ q ∈ fp, FpOk (C.X b) ip H q) ∧ GoneN b.s s) →
        GRun (model C.P C.w) b.A (Std C (ys ++ ds) b) (.forLoop tg (.ref it) body [] C.env) ((model C.P C.w).den (.forLoop tg (.ref it) body [] C.env)) (.ret k0 none false l c p kp :: fs) s := by
      intro j
      induction hn : items.length - j generalizing j with
      | zero =>
        intro b s r ys ok hj hF ⟨σ, S, H, I, e, ex1, exf, gk, st, ff, nb⟩
        have hje : j = items.length := by omega
        subst hje
        rw [List.drop_length] at hF
        cases hF
        refine gr_forLoop (Xe := fun x _ => ∃ z, (C.X b).xe x z) (fun x z t ⟨y, q⟩ => gx ok pl q) ?_
        rw [pl.over, ← ok.A]
        refine wpAny_mono (piece I.bare (T.done (C.X b) rfl rfl rfl rfl items.length ip _ σ H (C.X b).xe (I.deadG _) ff st (wk.stops H (hG S H ex1 e.ex)))) (fun rr s4 q => ?_) fun x _ ⟨s2, _, _, _, q⟩ => ⟨s2, q⟩
        obtain ⟨s5, e5, d5, ⟨hr, I5⟩, k5, z5, n5⟩ := q
        subst hr
        refine gr_leaf (.ok .next) ?_
        rw [hk0]
        exact kon b s4 .next ok ⟨σ, S, H, by rw [e5]; exact I5.restG d5 I.bare, e, gk.kept k5 z5, hip, nb.trans n5, exf⟩
      | succ n ih =>
        intro b s r ys ok hj hF ⟨σ, S, H, I, e, ex1, exf, gk, st, ff, nb⟩
        have hjl : j < items.length := by omega
        rw [List.drop_eq_getElem_cons hjl] at hF
        unfold loopG at hF
        cases htt : t items[j] r with
        | err _ _ _ => rw [htt] at hF; cases hF; exact oo.elim
        | bad => rw [htt] at hF; cases hF; exact oo.elim
        | ok r1 =>
          rw [htt] at hF
          dsimp only at hF
          refine gr_forLoop (Xe := fun x _ => ∃ z, (C.X b).xe x z) (fun x z t ⟨y, q⟩ => gx ok pl q) ?_
          rw [pl.over, ← ok.A]
          refine wpAny_mono (piece3 I.bare (m := pyNext (.ref it)) (f := fun rr => match rr with
            | none => pure ()
            | some u => letOwnedTupleGo tg (.ref it) u) (P := fun rr => ∃ u, rr = some u) (Q := fun rr _ s2 => ∃ u x H', rr = some u ∧ Inv (C.X b) ip σ H' s2 ∧ RelV x u ∧ J1.yld j H x H' ∧ tn (j + 1) s2.heap ∧ ∀ q ∈ fp, H' q = none) (E := (C.X b).xe)
            (wpAny_mono (T.item (C.X b) rfl rfl rfl rfl j ip _ σ H (C.X b).xe (I.deadG _) ff st (wk.goes j H hjl (hG S H ex1 e.ex))) (fun rr s4 ⟨u, hr, q⟩ => by
              subst hr
              exact ⟨⟨u, rfl⟩, wpAny_mono q (fun _ s5 ⟨x, H', q1, q2, q3, q4, q5⟩ => ⟨u, x, H', rfl, q1, q2, q3, q4, q5⟩) fun _ _ z => z⟩) fun _ _ z => z)) (fun rr s4 q => ?_) fun x _ ⟨s2, q⟩ => ⟨s2, q⟩
          obtain ⟨⟨u, hr⟩, q⟩ := q
          subst hr
          refine wpAny_mono (show wpAny (model C.P C.w) (C.X b).A (letOwnedTupleGo tg (.ref it) u) _ _ s4 from q) (fun _ s4 q => ?_) fun x _ ⟨s2, q⟩ => ⟨s2, q⟩
          obtain ⟨s3, e3, d3, ⟨u', x, H4, hu, I4', rv, yl, st4', fr4⟩, kk, hs4, nb4⟩ := q
          cases hu
          have I4 : Inv (C.X b) ip σ H4 s4 := by rw [e3]; exact I4'.restG d3 I.bare
          have st4 : tn (j + 1) s4.heap := by rw [e3]; exact st4'
          obtain ⟨S4, d, f4, hd, hx⟩ := hY j S H x H4 hjl ex1 e.ex (wk.yields j H x H4 hjl (hG S H ex1 e.ex) yl)
          rw [List.getElem?_eq_getElem hjl] at hd
          cases hd
          have e4 := e.go f4
          have ff4 : ∀ q ∈ fp, FpOk (C.X b) ip H4 q := fun q hq => ⟨fr4 q hq, (ff q hq).2⟩
          have I4p := I4.pinned ff4 (T.obj _ _ st4)
          have hasg : wpAny (model C.P C.w) (C.X b).A (assign tg C.env u) (fun _ s5 => (∃ σ5, Inv (C.X b) (ip ++ pinsAt fp s4.heap) σ5 H4 s5 ∧ EnvOk C.cf b.S b.H G' S4 H4 σ5 r1) ∧ KeptG (fun _ => False) s4 s5 ∧ s4.gens.size ≤ s5.gens.size ∧ GoneN s4 s5) (fun x _ => ∃ z, (C.X b).xe x z) s4 := by
            rw [← ok.env]
            refine wpAny_mono (piece I4.bare ((ht b ok).run (ip ++ pinsAt fp s4.heap) _ σ H4 x u (fun σ5 H5 => H4 = H5 ∧ EnvOk C.cf b.S b.H G' S4 H4 σ5 r1) (I4p.deadG _) rv ⟨b.S, b.H, S4, r, _, e4, hx, ?_⟩)) (fun _ s5 q5 => ?_) fun x _ ⟨s2, _, _, _, q⟩ => ⟨s2, q⟩
            · rw [htt]
              exact fun σ5 z5 e5 => ⟨rfl, e5⟩
            · obtain ⟨s5', e5', d5, ⟨σ5, H5, I5, rfl, e5⟩, k5, h5, nb5⟩ := q5
              exact ⟨⟨σ5, by rw [e5']; exact I5.restG d5 I4.bare, e5⟩, k5, h5, nb5⟩
          refine wpAny_mono hasg (fun _ s5 q5 => ?_) fun _ _ q => q
          obtain ⟨⟨σ5, I5, e5⟩, k5, h5, nb5⟩ := q5
          intro J'
          have hip4 : ∀ q ∈ ip ++ pinsAt fp s4.heap, C.n0 ≤ q.1 := fun q hq => by
            rcases List.mem_append.mp hq with hq | hq
            · exact hip q hq
            · exact old q.1 (of_pinsAt hq).1
          have gk5 : GlOk b gl s5 := (gk.kept kk hs4).kept k5 h5
          have exf4 : Ex Sf S4 := exf.trans f4.s
          have hst : GSt C S4 b (ip ++ pinsAt fp s4.heap) gl G' r1 s5 := ⟨σ5, S4, H4, I5, e5, gk5, hip4, (nb.trans nb4).trans nb5, Ex.refl⟩
          have next : ∀ {b2 : GB} {s2 : Shared} {r2 : Rho} {ys2 : List D}, C.Ok b2 → GSt C S4 b2 (ip ++ pinsAt fp s4.heap) gl G r2 s2 → loopG t F (items.drop (j + 1)) r2 = (ys2, o) → GRun (model C.P C.w) b2.A (Std C (ys2 ++ ds) b2) (.forLoop tg (.ref it) body [] C.env) ((model C.P C.w).den (.forLoop tg (.ref it) body [] C.env)) (.ret k0 none false l c p kp :: fs) s2 := fun {b2 s2 r2 ys2} ok2 ⟨σ7, S7, H7, I7, e7, g7, _, nb7, f7⟩ h2 => by
            refine ih (j + 1) (by omega) b2 s2 r2 ys2 ok2 (by omega) h2 ⟨σ7, S7, H7, I7.unpinned, e7, (ex1.trans f4.s).trans f7, exf4.trans f7, g7, ?_, ?_, nb7⟩
            · exact T.keep _ _ _ st4 fun q hq o1 z1 => (I7.pin (q, o1) (List.mem_append_right _ (List.mem_append_right _ (mem_pinsAt hq z1)))).1
            · exact fp_of I7 (fun q hq => let ⟨o1, z1, _⟩ := T.obj _ _ st4 q hq; ⟨o1, z1⟩) (yg ok2)
          have out : ∀ {b2 : GB} {s2 : Shared} {r2 : Rho}, GSt C S4 b2 (ip ++ pinsAt fp s4.heap) gl G r2 s2 → GSt C Sf b2 ip gl G r2 s2 := fun {b2 s2 r2} ⟨σ7, S7, H7, I7, e7, g7, _, nb7, f7⟩ => ⟨σ7, S7, H7, I7.unpinned, e7, g7, hip, nb7, exf4.trans f7⟩
          cases hB : F r1 with
          | mk y1 o1 =>
            rw [hB] at hF
            cases o1 with
            | nx r2 =>
              obtain ⟨z1, z2⟩ := Prod.mk.inj hF
              rw [← z1, List.append_assoc]
              refine hb S4 (ip ++ pinsAt fp s4.heap) gl b s5 r1 y1 (.nx r2) _ _ _ _ J' id id ok pl hB trivial hst fun b2 s2 fl ok2 ho => ?_
              cases fl with
              | next => exact gr_again rfl (next ok2 ho (by rw [← z2]))
              | _ => exact ho.elim
            | ct r2 =>
              obtain ⟨z1, z2⟩ := Prod.mk.inj hF
              rw [← z1, List.append_assoc]
              refine hb S4 (ip ++ pinsAt fp s4.heap) gl b s5 r1 y1 (.ct r2) _ _ _ _ J' id id ok pl hB trivial hst fun b2 s2 fl ok2 ho => ?_
              cases fl with
              | cont => exact gr_again rfl (next ok2 ho (by rw [← z2]))
              | _ => exact ho.elim
            | bk r2 =>
              cases hF
              refine hb S4 (ip ++ pinsAt fp s4.heap) gl b s5 r1 _ (.bk r2) _ _ _ _ J' id id ok pl hB trivial hst fun b2 s2 fl ok2 ho => ?_
              cases fl with
              | brk =>
                refine gr_leaf (.ok .next) ?_
                rw [hk0]
                exact kon b2 s2 .next ok2 (out ho)
              | _ => exact ho.elim
            | rt dd =>
              cases hF
              refine hb S4 (ip ++ pinsAt fp s4.heap) gl b s5 r1 _ (.rt dd) _ _ _ _ J' id id ok pl hB trivial hst fun b2 s2 fl ok2 ho => ?_
              cases fl with
              | ret u =>
                obtain ⟨v7, σ7, S7, H7, r7, I7, f7, hv7, gs7⟩ := ho
                refine gr_leaf (.ok (.ret u)) ?_
                rw [hk0]
                exact kon b2 s2 (.ret u) ok2 ⟨v7, σ7, S7, H7, r7, I7.unpinned, f7, hv7, gs7⟩
              | _ => exact ho.elim
            | er _ _ _ _ => cases hF; exact oo.elim
            | bad => cases hF; exact oo.elim
    rw [ok.env]
    exact loop 0 b s1 r ys ok (Nat.zero_le _) (by rw [List.drop_zero]; exact hF) ⟨σ, S1, H1, I3, e.go fw, Ex.refl, hfl.trans fw.s, g0.kept kpt hsz, st3, f1, nb.trans nb1⟩
end
section
variable {X : Cx} {c : Cf} {G : List Ow} {k : Nat} {f : Addr} {fd : FuncData} {ps : List Str} {pos apos : Pos} {o e1 : Expr} {es : List Expr} {f1 : Rho → Res D} {fs : Rho → Res (List D)} {F : List D → Res (List D)}
def dMethGA (n m : Str) (F : List D → Res (List D)) (f1 : Rho → Res D) (fs : Rho → Res (List D)) : Rho → Res (List D) := fun r => (f1 r).bind fun x => (isObj n m x).bind fun _ => (fs r).bind fun ds => F (x :: ds)
theorem dg_methG {n m : Str} {C : Addr} {pl : Sem Bool} (hcn : c.cm n = some C) (cl : Cls X.K C) (hm : Meth X.K C m f) (F1 : GFnD X.prog X.w X.K X.mg X.base c.cm k f fd ps F) (hr : Room k X.A) (hb : L2.Binds X.K fd ps []) (hlen : ∀ r ds, fs r = .ok ds → ds.length + 1 = ps.length) (he : PE X o (tV c G f1)) (ha : PA X (e1 :: es) (tAs c G fs)) (hK : c.K = X.K := by rfl)
    (hst : starEach (e1 :: es) X.env = (false, eval e1 X.env) :: starEach es X.env := by rfl) (hpl : (backTo pos (starEach es X.env)).any (·.1) = false := by rfl)
    (ht : eval (.Call (.Attribute o m apos) (e1 :: es) [] pos) X.env = (do
      let ov ← eval o X.env
      standAt apos.atName
      let (f, first) ← holding [ov] (getMethod ov m pl)
      callWith pos f first (backTo pos (starEach (e1 :: es) X.env)) (backToKw pos (keywordEach [] X.env))) := by rfl) :
    GEx X c G k (.Call (.Attribute o m apos) (e1 :: es) [] pos) (dMethGA n m F f1 fs) := by
  refine ⟨fun pins s σ S0 H0 S H r items I ev hi => ?_⟩
  unfold dMethGA at hi
  cases hf : f1 r with
  | err _ _ _ => rw [hf] at hi; cases hi
  | bad => rw [hf] at hi; cases hi
  | ok x =>
    rw [hf] at hi
    cases x with
    | obj c' ns vs =>
      have hi2 : ((if c' = n ∧ m ∉ ns then (.ok () : Res Unit) else .bad).bind fun _ => (fs r).bind fun ds => F (.obj c' ns vs :: ds)) = .ok items := hi
      by_cases hc : c' = n ∧ m ∉ ns
      · rw [if_pos hc] at hi2
        have hi3 : ((fs r).bind fun ds => F (.obj c' ns vs :: ds)) = .ok items := hi2
        cases hfs : fs r with
        | err _ _ _ => rw [hfs] at hi3; cases hi3
        | bad => rw [hfs] at hi3; cases hi3
        | ok ds =>
          rw [hfs] at hi3
          have hi4 : F (.obj c' ns vs :: ds) = .ok items := hi3
          obtain ⟨rfl, hmn⟩ := hc
          have hrun := he.run pins s σ H (fun v H1 => ∃ S1, Fwd S H S1 H1 ∧ Rp c.K c.cm S1 v (.obj c' ns vs)) I ⟨S0, H0, S, r, ev, by
            rw [hf]
            exact fun S' H' fw v hv => ⟨S', fw, hv⟩⟩
          have hrun2 := wpAny_gsz (n := s.gens.size) (Nat.le_refl _) (wpAny_mono hrun (fun us z q k => (⟨k, q⟩ : s.gens.size ≤ z.gens.size ∧ _)) fun _ _ q _ => q)
          refine W.methodCall_KW (thn hrun2 fun u s1 ⟨hsz, v, H1, I1, rv, S1, f1', hv⟩ => ?_) ht
          obtain ⟨q, C', dx, fs', rfl, z1, z2, z3, z4⟩ := RpB.obj (.inl hv) f1'.sub
          rw [hcn] at z1; cases z1
          obtain rfl : u = Value.ref q := rv
          refine getmeth_ok I1 z2 cl hm (lookup_none (by rw [← z3]; exact hmn)) ?_
          have ev1 := ev.go f1'
          have hrun3 := wpAny_gsz (n := s1.gens.size) (Nat.le_refl _) (wpAny_mono (ha.run pos pins s1 σ H1 (fun vs2 H2 => ∃ S2, Fwd S1 H1 S2 H2 ∧ RpA c.K c.cm S2 vs2 ds) I1 ⟨S0, H0, S1, r, ev1, by
            rw [hfs]
            exact fun S' H' fw vs2 hv2 => ⟨S', fw, hv2⟩⟩) (fun us z q k => (⟨k, q⟩ : s1.gens.size ≤ z.gens.size ∧ _)) fun _ _ q _ => q)
          refine PySem.W.callWith_K (first := [.ref q]) (h₀ := X.base) I1.ok.mod.kin hm.kp (thn hrun3 fun us s2 ⟨hsz2, vs2, H2, I2, r2, S2, f2, hv2⟩ => ⟨I2.kIn, ?_⟩) hst hpl
          have hl : (V.ref q :: vs2).length = ps.length := by rw [List.length_cons, hv2.length]; exact hlen r ds hfs
          exact thn (run_gfnD (us := .ref q :: us) (vs := .ref q :: vs2) F1 hK hr hb I2 f2.sub (.cons rfl r2) hl (.cons (hv.mono f2.s) hv2) hi4) fun u' s3 z => ⟨S2, H2, s2, Nat.le_trans hsz hsz2, f1'.trans f2, I2, z⟩
      · rw [if_neg hc] at hi2; cases hi2
    | _ => cases hi
end
end Dx
end S_DxDA
section S_DxDB
set_option Elab.async false
set_option linter.all false
set_option maxRecDepth 100000
set_option maxHeartbeats 2000000
namespace Dx
open PySem L2
open PyProof.Rows hiding St
end Dx
end S_DxDB
section S_DxDC
set_option Elab.async false
set_option linter.all false
set_option maxRecDepth 100000
set_option maxHeartbeats 2000000
namespace Dx
open PySem L2
section
variable {X : Cx} {c : Cf} {L G : List Ow} {fi : Rho → Res D} {ie : Expr} {pos apos cpos bpos dpos : Pos}
noncomputable def appPopF (i j : Nat) (fi : Rho → Res D) : Rho → SR := fun r => liftS r (ownL i r) fun _ => liftS r (ownL j r) fun ys => liftS r (fi r) fun d => liftS r (asI d) fun k => guardS (-(2 ^ 63) ≤ k ∧ k < 2 ^ 63) (match ixN ys.length k with
  | some n => match ys[n]? with
    | some y => liftS (r.set j (some (.lst (ys.eraseIdx n)))) (ownL i (r.set j (some (.lst (ys.eraseIdx n))))) fun xs => guardS (xs.length < sizeLine) (.nx ((r.set j (some (.lst (ys.eraseIdx n)))).set i (some (.lst (xs ++ [y])))))
    | none => .bad
  | none => .bad)
theorem RpA.eraseIdx {K : PySem.W.Frag} {cm : CM} {S : Hp} : ∀ {vs : List V} {ds : List D} (n : Nat), RpA K cm S vs ds → RpA K cm S (vs.eraseIdx n) (ds.eraseIdx n)
  | _, _, _, .nil => .nil
  | _, _, 0, .cons _ h => h
  | _, _, n + 1, .cons a h => .cons a (RpA.eraseIdx n h)
theorem ds_appPop (i j : Nat) {x y : Str} {pn pm : Pos} (hg : Gok c G) (ki : kd G i = .o) (kj : kd G j = .o) (ho : PE X (.Name x pn) (tVar i)) (hy : PE X (.Name y pm) (tVar j)) (hi : PE X ie (tV c G fi))
    (hw : swapsWith (.Call (.Attribute (.Name x pn) "append" apos) [.Call (.Attribute (.Name y pm) "pop" bpos) [ie] [] dpos] [] cpos) none pos.line X.env = pure false := by rfl)
    (hbase : attributeBase (.Name x pn) "append" X.env (eval (.Name x pn) X.env) = eval (.Name x pn) X.env := by rfl)
    (hfew : ((backTo cpos (starEach [(.Call (.Attribute (.Name y pm) "pop" bpos) [ie] [] dpos : Expr)] X.env)).all (fun x => !x.1) && (backToKw cpos (keywordEach [] X.env)).all (fun x => x.1.isSome) && decide ([(.Call (.Attribute (.Name y pm) "pop" bpos) [ie] [] dpos : Expr)].length + ([] : List Keyword).length + (if ([] : List Keyword).isEmpty then 0 else 1) < 30)) = true := by rfl)
    (hline : (apos.endLine == cpos.line) = true := by rfl) (hs : starEach [(.Call (.Attribute (.Name y pm) "pop" bpos) [ie] [] dpos : Expr)] X.env = (false, eval (.Call (.Attribute (.Name y pm) "pop" bpos) [ie] [] dpos) X.env) :: starEach [] X.env := by rfl)
    (hbase2 : attributeBase (.Name y pm) "pop" X.env (eval (.Name y pm) X.env) = eval (.Name y pm) X.env := by rfl)
    (hfew2 : ((backTo dpos (starEach [ie] X.env)).all (fun x => !x.1) && (backToKw dpos (keywordEach [] X.env)).all (fun x => x.1.isSome) && decide ([ie].length + ([] : List Keyword).length + (if ([] : List Keyword).isEmpty then 0 else 1) < 30)) = true := by rfl)
    (hline2 : (bpos.endLine == dpos.line) = true := by rfl) (hs2 : starEach [ie] X.env = (false, eval ie X.env) :: starEach [] X.env := by rfl) :
    PS X (.Expr (.Call (.Attribute (.Name x pn) "append" apos) [.Call (.Attribute (.Name y pm) "pop" bpos) [ie] [] dpos] [] cpos) pos) (sD c L G G (appPopF i j fi)) :=
  ps_imp (ps_expr (pe_app ho (pe_bm PySem.F.plainAttrs_list PySem.F.slot_list_pop PySem.F.type_list_pop mt_popAt hy (pa_cons hi pa_nil hs2) hbase2 hfew2 hline2 hs2 rfl) hbase hfew hline hs) hw) fun E σ H ⟨S0, H0, S, r, ok, p⟩ => by
    obtain ⟨q, xs, ds, hd, z1, z2, z3, p1⟩ := of_ownL ok ki p
    obtain ⟨q', xs', ds', hd', y1, y2, y3, p2⟩ := of_ownL ok kj p1
    refine ⟨.ref q, z1, .inl ⟨rfl, xs, .inl (.inl z2)⟩, ?_⟩
    refine ⟨.ref q', y1, .inl ⟨rfl, xs', .inl (.inl y2)⟩, st_seq hg ok p2 fun d v S1 H1 w1 o1 m1 p3 => ?_⟩
    cases d with
    | int k =>
      cases m1
      dsimp only [asI, liftS] at p3
      obtain ⟨hk, p3⟩ := p3.gd
      split at p3
      · rename_i n hn
        split at p3
        · rename_i e he
          obtain ⟨w, hw1, rw1⟩ := y3.get he
          have e1 := o1.mut kj hd' y1 (.lst ((y3.mono w1.s).eraseIdx n))
          obtain ⟨q2, xs2, ds2, hd2, u1, u2, u3, p4⟩ := of_ownL e1 ki p3
          obtain ⟨hl, p4⟩ := p4.gd
          cases (show V.ref q = V.ref q2 from by rw [z1] at u1; cases u1; rfl)
          exact ⟨q', xs', k, n, w, rfl, rfl, w1.h _ _ y2, hk.1, hk.2, by rw [y3.length]; exact (ixN_seq hn).1, hw1, ⟨q, xs2, w, rfl, rfl, u2, by rw [u3.length]; exact hl, p4 σ S1 _ (e1.mut ki hd2 u1 (.lst (u3.app (.one (Rp.mono w1.s rw1)))))⟩⟩
        · exact p3.elim
      · exact p3.elim
    | _ => exact p3.elim
end
theorem ss_appPop {i j n : Nat} {fi : Rho → Res D} {r : Rho} {xs ys : List D} {y : D} {N B C : Rho → Prop} {R : D → Prop} {E : Rho → Str → List Str → List D → Prop} (hij : i ≠ j) (h1 : r[i]? = some (some (.lst xs))) (h2 : r[j]? = some (some (.lst ys)))
    (h : Rs (fi r) (fun d => d = .int (n : Int)) (E r)) (hn : n < 4611686018427387904) (hy : ys[n]? = some y) (hl : xs.length < sizeLine) (q : N ((r.set j (some (.lst (ys.eraseIdx n)))).set i (some (.lst (xs ++ [y]))))) : Ss (appPopF i j fi r) N R B C E := by
  have hnl := (List.getElem?_eq_some_iff.mp hy).1
  unfold appPopF
  refine ss_lift (Rs.of (a := xs) (by unfold ownL; rw [h1]) ?_)
  refine ss_lift (Rs.of (a := ys) (by unfold ownL; rw [h2]) ?_)
  refine ss_lift (h.impE (fun d e => ?_) fun _ _ _ z => z)
  subst e
  refine ss_lift ?_
  show Ss (guardS _ _) _ _ _ _ _
  rw [guardS_pos ⟨by omega, by omega⟩]
  have e1 : ixN ys.length (n : Int) = some n := by
    unfold ixN
    rw [if_pos (by omega), if_pos (by omega)]
    simp
  rw [e1]
  dsimp only
  rw [hy]
  dsimp only
  refine ss_lift (Rs.of (a := xs) (by unfold ownL; rw [List.getElem?_set_ne (fun z => hij z.symm), h1]) ?_)
  rw [guardS_pos hl]
  exact q
end Dx
end S_DxDC
section S_P_data
set_option Elab.async false
set_option linter.all false
set_option maxRecDepth 100000
namespace Lk
open PySem L2 Dx
noncomputable section
def md_INNER_ROLES : List (Str × D) := [((Sg [114, 111, 111, 116]), .kt [.str "block", .str "head"]), ((Sg [98, 108, 111, 99, 107]), .kt [.str "span", .str "note", .str "figure", .str "ref"]), ((Sg [104, 101, 97, 100]), .kt [.str "span", .str "ref"]), ((Sg [115, 112, 97, 110]), .kt [.str "span", .str "ref"]), ((Sg [110, 111, 116, 101]), .kt [.str "span"]), ((Sg [102, 105, 103, 117, 114, 101]), .kt [.str "span"]), ((Sg [114, 101, 102]), .kt [])]
def Lp_all_nodes_1 : Rho → SR := (appF 1 (dTup (dCons (dOp addD (dVar 2) (dTup (dCons (dVar 4) dNil))) (dCons (dOp ixD (dOp ixD (dVar 3) (dC (.int 2))) (dVar 4)) dNil))))
def Gp_all_nodes_2 : Rho → List D × SR := (seqG (leafG (popF 1 (tgT 2 (tgCons (tgN 2) (tgCons (tgN 3) tgNil))))) (seqG (yieldG [.v, .o, .v, .v, .v] (dTup (dCons (dVar 2) (dCons (dVar 3) dNil)))) (seqG (leafG (ifF (dNot (dT (dUn (isiD "str") (dVar 3)))) (forF (dIts rng3 (dCons (dOp subD (dCall (g1 lenD) (dCons (dOp ixD (dVar 3) (dC (.int 2))) dNil)) (dC (.int 1))) (dCons (dUn negD (dC (.int 1))) (dCons (dUn negD (dC (.int 1))) dNil)))) (tgN 4) Lp_all_nodes_1) .nx)) nilG)))
def Fb_all_nodes : Rho → List D × SR := (seqG (leafG (setF 1 (dLst (dCons (dTup (dCons (dTup dNil) (dCons (dVar 0) dNil))) dNil)))) (seqG (whileG (dTru (dVar 1)) Gp_all_nodes_2 100000) nilG))
def F_all_nodes : List D → Res (List D) := runGF 5 Fb_all_nodes
def Lp_node_at_1 : Rho → SR := (seqF (ifF (dOr (dT (dUn (isiD "str") (dVar 2))) (dNot (dT (dChain leD ltD (dC (.int 0)) (dVar 3) (dCall (g1 lenD) (dCons (dOp ixD (dVar 2) (dC (.int 2))) dNil)))))) (raiF "NoPlace" ["place"] false (dCons (dVar 1) dNil)) .nx) (setF 2 (dOp ixD (dOp ixD (dVar 2) (dC (.int 2))) (dVar 3))))
def Fb_node_at : Rho → SR := (seqF (setF 2 (dVar 0)) (seqF (forF (dIt itemsT (dVar 1)) (tgN 3) Lp_node_at_1) (retF (dVar 2))))
def F_node_at : List D → Res D := runF 4 false Fb_node_at
def Lp_Grammar_check_inner_1 : Rho → SR := (seqF (ifF (dT (dOp (inK true) (dVar 4) (dUn (fldD "Grammar" "entries") (dVar 0)))) (raiF "Unknown" ["kind"] false (dCons (dVar 4) dNil)) .nx) (ifF (dT (dOp (inKt true) (dOp ixD (dOp getZ (dUn (fldD "Grammar" "entries") (dVar 0)) (dVar 4)) (dC (.int 0))) (dUn (mdGet md_INNER_ROLES) (dVar 2)))) (raiF "Misfit" ["kind"] false (dCons (dVar 4) dNil)) .nx))
def Fb_Grammar_check_inner : Rho → SR := (seqF (asgF (tgT 2 (tgCons (tgN 2) (tgCons (tgN 3) tgNil))) (dOp getZ (dUn (fldD "Grammar" "entries") (dVar 0)) (dVar 1))) (forF (dIt itemsT (dVar 3)) (tgN 4) Lp_Grammar_check_inner_1))
def F_Grammar_check_inner : List D → Res D := runF 5 false Fb_Grammar_check_inner
def Lp_Grammar_init_1 : Rho → SR := (seqF (ifF (dT (dOp (inK false) (dVar 3) (dJf 0 7 "Grammar"))) (raiF "Taken" ["kind"] false (dCons (dVar 3) dNil)) .nx) (seqF (putJF 0 7 "Grammar" (dVar 3) (dTup (dCons (dVar 4) (dCons (dCall (g1 tupleD) (dCons (dVar 5) dNil)) dNil)))) (appJF 0 6 "Grammar" (dVar 3))))
def Lp_Grammar_init_2 : Rho → SR := (dropF (dMeth "Grammar" "check_inner" F_Grammar_check_inner (dVar 0) (dCons (dVar 3) dNil)))
def Fb_Grammar_init : Rho → SR := (seqF (fstF 0 "Grammar" "root" (dVar 1)) (gramS 0 6 7 6 "Grammar" "root" "order" "entries" (forF (dIt itemsL (dVar 2)) (tgT 3 (tgCons (tgN 3) (tgCons (tgN 4) (tgCons (tgN 5) tgNil)))) Lp_Grammar_init_1) (seqF (ifF (dT (dOp (inK true) (dVar 1) (dUn (fldD "Grammar" "entries") (dVar 0)))) (raiF "Unknown" ["kind"] false (dCons (dVar 1) dNil)) .nx) (seqF (ifF (dT (dOp neD (dOp ixD (dOp getZ (dUn (fldD "Grammar" "entries") (dVar 0)) (dVar 1)) (dC (.int 0))) (dC (.str (Sg [114, 111, 111, 116]))))) (raiF "Misfit" ["kind"] false (dCons (dVar 1) dNil)) .nx) (forF (dIt itemsL (dUn (fldD "Grammar" "order") (dVar 0))) (tgN 3) Lp_Grammar_init_2)))))
def F_Grammar_init : List D → Res D := runI 8 "Grammar" Fb_Grammar_init
def Fb_Grammar_may_stand : Rho → SR := (seqF (ifF (dT (dOp eqD (dVar 2) (dTup dNil))) (retF (dOp eqD (dOp ixD (dVar 3) (dC (.int 0))) (dUn (fldD "Grammar" "root") (dVar 0)))) .nx) (seqF (asgF (tgT 2 (tgCons (tgN 4) (tgCons (tgN 5) tgNil))) (dOp getZ (dUn (fldD "Grammar" "entries") (dVar 0)) (dOp ixD (dCall F_node_at (dCons (dVar 1) (dCons (dSl slD (dVar 2) dNoP (dPart (dUn negD (dC (.int 1))))) dNil))) (dC (.int 0))))) (seqF (ifF (dT (dUn (isiD "str") (dVar 3))) (retF (dOp (inKt false) (dVar 4) (dC (.kt [.str "block", .str "head", .str "span", .str "note", .str "figure"])))) .nx) (retF (dOp inD (dOp ixD (dVar 3) (dC (.int 0))) (dVar 5))))))
def F_Grammar_may_stand : List D → Res D := runF 6 false Fb_Grammar_may_stand
def Lp_Grammar_check_1 : Rho → SR := (ifF (dNot (dT (dMeth "Grammar" "may_stand" F_Grammar_may_stand (dVar 0) (dCons (dVar 1) (dCons (dVar 2) (dCons (dVar 3) dNil)))))) (raiF "Strange" ["place"] false (dCons (dVar 2) dNil)) .nx)
def Fb_Grammar_check : Rho → SR := (forF (okG (dGen F_all_nodes (dCons (dVar 1) dNil))) (tgT 2 (tgCons (tgN 2) (tgCons (tgN 3) tgNil))) Lp_Grammar_check_1)
def F_Grammar_check : List D → Res D := runF 4 false Fb_Grammar_check
def Lp_Grammar_elements_of_1 : Rho → SR := (appF 4 (dTup (dCons (dVar 1) (dCons (dVar 6) (dCons (dVar 5) dNil)))))
def Lp_Grammar_elements_of_2 : Rho → SR := (forF (dIt itemsL (dVar 3)) (tgN 6) Lp_Grammar_elements_of_1)
def Fb_Grammar_elements_of (Fself : List D → Res D) : Rho → SR := (seqF (setF 4 (dLst dNil)) (seqF (forF (dIt itemsL (dMeth "Grammar" "rows_of" Fself (dVar 0) (dCons (dOp ixD (dOp getZ (dUn (fldD "Grammar" "entries") (dVar 0)) (dVar 1)) (dC (.int 1))) (dCons (dOp subD (dVar 2) (dC (.int 1))) (dCons (dVar 3) dNil))))) (tgN 5) Lp_Grammar_elements_of_2) (retF (dVar 4))))
def F_Grammar_elements_of (Fself : List D → Res D) : List D → Res D := runF 7 false (Fb_Grammar_elements_of Fself)
def Lp_Grammar_rows_of_1 (Fself : List D → Res D) : Rho → SR := (extF 6 (dMeth "Grammar" "elements_of" (F_Grammar_elements_of Fself) (dVar 0) (dCons (dVar 7) (dCons (dVar 5) (dCons (dVar 3) dNil)))))
def Lp_Grammar_rows_of_2 : Rho → SR := (appF 4 (dOp addD (dTup (dCons (dVar 9) dNil)) (dVar 8)))
def Lp_Grammar_rows_of_3 : Rho → SR := (forF (dIt itemsL (dVar 6)) (tgN 9) Lp_Grammar_rows_of_2)
def Lp_Grammar_rows_of_4 (Fself : List D → Res D) : Rho → SR := (seqF (setF 6 (dLst dNil)) (seqF (forF (dIt itemsT (dVar 1)) (tgN 7) (Lp_Grammar_rows_of_1 Fself)) (ifF (dTru (dVar 6)) (forF (dIt itemsL (dMeth "Grammar" "rows_of" Fself (dVar 0) (dCons (dVar 1) (dCons (dOp subD (dVar 2) (dVar 5)) (dCons (dVar 3) dNil))))) (tgN 8) Lp_Grammar_rows_of_3) .nx)))
def Fb_Grammar_rows_of (Fself : List D → Res D) : Rho → SR := (seqF (ifF (dT (dOp eqD (dVar 2) (dC (.int 0)))) (retF (dLst (dCons (dTup dNil) dNil))) .nx) (seqF (setF 4 (dLst dNil)) (seqF (forF (dIts rng2 (dCons (dC (.int 1)) (dCons (dOp addD (dVar 2) (dC (.int 1))) dNil))) (tgN 5) (Lp_Grammar_rows_of_4 Fself)) (retF (dVar 4)))))
def F_Grammar_rows_of : Nat → List D → Res D
  | 0 => fun _ => .bad
  | n + 1 => runF 10 false (Fb_Grammar_rows_of (F_Grammar_rows_of n))
def Gp_Grammar_every_tree_1 : Rho → List D × SR := (seqG (yieldG [.v, .v, .v, .v] (dVar 3)) nilG)
def Fb_Grammar_every_tree : Rho → List D × SR := (seqG (forGG (dIt itemsL (dCall (g1 (sortDatD false)) (dCons (dMeth "Grammar" "elements_of" (F_Grammar_elements_of (F_Grammar_rows_of 8)) (dVar 0) (dCons (dUn (fldD "Grammar" "root") (dVar 0)) (dCons (dVar 1) (dCons (dVar 2) dNil)))) dNil))) (tgN 3) Gp_Grammar_every_tree_1) nilG)
def F_Grammar_every_tree : List D → Res (List D) := runGF 4 Fb_Grammar_every_tree
def Fb_l_cell : Rho → SR := (seqF (ifF (dT (dOp eqD (dCall (g1 lenD) (dCons (dVar 0) dNil)) (dC (.int 0)))) (retF (dOp powD (dC (.int 10)) (dC (.int 18)))) .nx) (seqF (ifF (dT (dOp ltD (dVar 1) (dCall (g1 lenD) (dCons (dVar 0) dNil)))) (retF (dCall (g1 intD) (dCons (dOp ixD (dVar 0) (dVar 1)) dNil))) .nx) (retF (dOp addD (dOp mulX (dC (.int 7)) (dVar 1)) (dCall (g1 sumD) (dCons (dLc (dIt itemsL (dVar 0)) (tgN 2) dYes (dOp modD (dCall (g1 intD) (dCons (dVar 2) dNil)) (dC (.int 1000))) [2]) dNil))))))
def F_l_cell : List D → Res D := runF 3 false Fb_l_cell
def Lp_l_row_1 : Rho → SR := (ifF (dOr (dT (dOp gtD (dVar 3) (dC (.int 0)))) (dT (dOp eqD (dVar 0) (dOp powD (dC (.int 10)) (dC (.int 18)))))) (seqF (appF 2 (dOp modD (dCall (g1 intD) (dCons (dVar 3) dNil)) (dOp ixD (dVar 1) (dVar 4)))) (setF 3 (dOp fdivD (dVar 3) (dOp ixD (dVar 1) (dVar 4))))) (seqF (setF 5 (dOp modD (dCall (g1 intD) (dCons (dOp addD (dOp addD (dOp mulX (dVar 0) (dC (.int 48271))) (dOp mulX (dVar 4) (dC (.int 69621)))) (dC (.int 11))) dNil)) (dC (.int 2147483647)))) (seqF (setF 5 (dOp modD (dCall (g1 intD) (dCons (dOp addD (dOp addD (dOp mulX (dVar 5) (dOp addD (dC (.int 16807)) (dOp mulX (dC (.int 2)) (dVar 4)))) (dOp mulX (dOp mulX (dVar 4) (dVar 4)) (dC (.int 40692)))) (dC (.int 7))) dNil)) (dC (.int 2147483399)))) (appF 2 (dOp modD (dCall (g1 intD) (dCons (dOp fdivD (dVar 5) (dC (.int 31))) dNil)) (dOp ixD (dVar 1) (dVar 4)))))))
def Fb_l_row : Rho → SR := (seqF (setF 2 (dLst dNil)) (seqF (setF 3 (dCall (g2 (intsD max2)) (dCons (dC (.int 0)) (dCons (dOp subD (dVar 0) (dOp powD (dC (.int 10)) (dC (.int 18)))) dNil)))) (seqF (forF (dIts rng1 (dCons (dCall (g1 lenD) (dCons (dVar 1) dNil)) dNil)) (tgN 4) Lp_l_row_1) (retF (dVar 2)))))
def F_l_row : List D → Res D := runF 6 false Fb_l_row
def Lp_l_names_1 : Rho → SR := (seqF (setF 6 (dStr joinD (dC (.str (Sg []))) (dLc (dIt itemsL (dSl slD (dVar 3) (dPart (dOp addD (dOp mulX (dC (.int 9)) (dVar 5)) (dC (.int 3)))) (dPart (dOp addD (dOp mulX (dC (.int 9)) (dVar 5)) (dC (.int 11)))))) (tgN 7) dYes (dOp ixD (dVar 2) (dVar 7)) [7]))) (appF 4 (dSl slD (dVar 6) dNoP (dPart (dOp addD (dOp ixD (dVar 3) (dOp addD (dOp mulX (dC (.int 9)) (dVar 5)) (dC (.int 2)))) (dC (.int 1)))))))
def Lp_l_names_2 : Rho → SR := (seqF (ifF (dT (dOp eqD (dOp ixD (dVar 3) (dC (.int 0))) (dC (.int 1)))) (seqF (setF 10 (dOp ixD (dVar 2) (dOp modD (dCall (g1 intD) (dCons (dOp addD (dOp ixD (dVar 3) (dC (.int 3))) (dOp mulX (dC (.int 5)) (dVar 5))) dNil)) (dC (.int 26))))) (stoF 4 (dVar 5) (dOp addD (dOp addD (dSl slD (dVar 8) dNoP (dPart (dVar 9))) (dVar 10)) (dSl slD (dVar 8) (dPart (dOp addD (dVar 9) (dC (.int 1)))) dNoP)))) .nx) (ifF (dT (dOp eqD (dOp ixD (dVar 3) (dC (.int 0))) (dC (.int 2)))) (stoF 4 (dVar 5) (dSl slD (dOp mulX (dVar 8) (dC (.int 8))) dNoP (dPart (dOp addD (dC (.int 1)) (dOp modD (dCall (g1 intD) (dCons (dVar 5) dNil)) (dC (.int 8))))))) .nx))
def Fb_l_names : Rho → SR := (seqF (setF 2 (dC (.str (Sg [97, 98, 99, 100, 101, 102, 103, 104, 105, 106, 107, 108, 109, 110, 111, 112, 113, 114, 115, 116, 117, 118, 119, 120, 121, 122])))) (seqF (setF 3 (dCall F_l_row (dCons (dVar 0) (dCons (dOp addD (dLst (dCons (dC (.int 3)) (dCons (dC (.int 8)) dNil))) (dOp mulX (dLst (dCons (dC (.int 8)) (dCons (dC (.int 26)) (dCons (dC (.int 26)) (dCons (dC (.int 26)) (dCons (dC (.int 26)) (dCons (dC (.int 26)) (dCons (dC (.int 26)) (dCons (dC (.int 26)) (dCons (dC (.int 26)) dNil)))))))))) (dVar 1))) dNil)))) (seqF (setF 4 (dLst dNil)) (seqF (forF (dIts rng1 (dCons (dVar 1) dNil)) (tgN 5) Lp_l_names_1) (seqF (setF 8 (dOp ixD (dVar 4) (dC (.int 0)))) (seqF (setF 9 (dOp modD (dCall (g1 intD) (dCons (dOp ixD (dVar 3) (dC (.int 1))) dNil)) (dCall (g1 lenD) (dCons (dVar 8) dNil)))) (seqF (forF (dIts rng1 (dCons (dVar 1) dNil)) (tgN 5) Lp_l_names_2) (retF (dVar 4)))))))))
def F_l_names : List D → Res D := runF 11 false Fb_l_names
def Lp_l_kinds_1 : Rho → SR := (ifF (dT (dOp inD (dVar 3) (dVar 2))) (setF 3 (dOp addD (dSl slD (dVar 3) dNoP (dPart (dC (.int 7)))) (dVar 4))) .nx)
def Lp_l_kinds_2 : Rho → SR := (seqF (forF (dIt itemsS (dC (.str (Sg [97, 98, 99, 100, 101, 102, 103, 104, 105, 106, 107, 108, 109, 110, 111, 112, 113, 114, 115, 116, 117, 118, 119, 120, 121, 122])))) (tgN 4) Lp_l_kinds_1) (appF 2 (dVar 3)))
def Fb_l_kinds : Rho → SR := (seqF (setF 2 (dLst dNil)) (seqF (forF (dIt itemsL (dCall F_l_names (dCons (dVar 0) (dCons (dVar 1) dNil)))) (tgN 3) Lp_l_kinds_2) (retF (dVar 2))))
def F_l_kinds : List D → Res D := runF 5 false Fb_l_kinds
def Fb_l_may : Rho → SR := (seqF (ifF (dT (dOp eqD (dVar 0) (dC (.str (Sg [114, 111, 111, 116]))))) (retF (dOrV (dOp eqD (dVar 1) (dC (.str (Sg [98, 108, 111, 99, 107])))) (dOp eqD (dVar 1) (dC (.str (Sg [104, 101, 97, 100])))))) .nx) (seqF (ifF (dT (dOp eqD (dVar 0) (dC (.str (Sg [98, 108, 111, 99, 107]))))) (retF (dOp inD (dVar 1) (dLst (dCons (dC (.str (Sg [115, 112, 97, 110]))) (dCons (dC (.str (Sg [110, 111, 116, 101]))) (dCons (dC (.str (Sg [102, 105, 103, 117, 114, 101]))) (dCons (dC (.str (Sg [114, 101, 102]))) dNil))))))) .nx) (seqF (ifF (dOr (dT (dOp eqD (dVar 0) (dC (.str (Sg [104, 101, 97, 100]))))) (dT (dOp eqD (dVar 0) (dC (.str (Sg [115, 112, 97, 110])))))) (retF (dOrV (dOp eqD (dVar 1) (dC (.str (Sg [115, 112, 97, 110])))) (dOp eqD (dVar 1) (dC (.str (Sg [114, 101, 102])))))) .nx) (retF (dAndV (dOrV (dOp eqD (dVar 0) (dC (.str (Sg [110, 111, 116, 101])))) (dOp eqD (dVar 0) (dC (.str (Sg [102, 105, 103, 117, 114, 101]))))) (dOp eqD (dVar 1) (dC (.str (Sg [115, 112, 97, 110])))))))))
def F_l_may : List D → Res D := runF 2 false Fb_l_may
def Lp_l_grammar_1 : Rho → SR := (seqF (setF 11 (dOp modD (dCall (g1 intD) (dCons (dOp addD (dVar 10) (dOp ixD (dVar 3) (dOp addD (dOp mulX (dC (.int 3)) (dVar 6)) (dC (.int 4))))) dNil)) (dVar 2))) (seqF (ifF (dAnd (dT (dOp eqD (dOp modD (dCall (g1 intD) (dCons (dVar 8) dNil)) (dC (.int 2))) (dC (.int 1)))) (dT (dCall F_l_may (dCons (dOp ixD (dVar 5) (dVar 6)) (dCons (dOp ixD (dVar 5) (dVar 11)) dNil))))) (appF 9 (dOp ixD (dVar 1) (dVar 11))) .nx) (setF 8 (dOp fdivD (dVar 8) (dC (.int 2))))))
def Lp_l_grammar_2 : Rho → SR := (seqF (parF 8 9 (dOp ixD (dVar 3) (dOp addD (dOp mulX (dC (.int 3)) (dVar 6)) (dC (.int 3)))) (dLst dNil)) (seqF (forF (dIts rng1 (dCons (dVar 2) dNil)) (tgN 10) Lp_l_grammar_1) (seqF (ifF (dT (dOp eqD (dOp ixD (dVar 3) (dC (.int 1))) (dC (.int 1)))) (revF 9) .nx) (appF 7 (dTup (dCons (dOp ixD (dVar 1) (dVar 6)) (dCons (dOp ixD (dVar 5) (dVar 6)) (dCons (dCall (g1 tupleD) (dCons (dVar 9) dNil)) dNil))))))))
def Fb_l_grammar : Rho → SR := (seqF (setF 2 (dCall (g1 lenD) (dCons (dVar 1) dNil))) (seqF (setF 3 (dCall F_l_row (dCons (dVar 0) (dCons (dOp addD (dLst (dCons (dVar 2) (dCons (dC (.int 2)) dNil))) (dOp mulX (dLst (dCons (dC (.int 9)) (dCons (dC (.int 4096)) (dCons (dVar 2) dNil)))) (dVar 2))) dNil)))) (seqF (setF 4 (dLst (dCons (dC (.str (Sg [98, 108, 111, 99, 107]))) (dCons (dC (.str (Sg [115, 112, 97, 110]))) (dCons (dC (.str (Sg [104, 101, 97, 100]))) (dCons (dC (.str (Sg [110, 111, 116, 101]))) (dCons (dC (.str (Sg [102, 105, 103, 117, 114, 101]))) (dCons (dC (.str (Sg [114, 101, 102]))) (dCons (dC (.str (Sg [98, 108, 111, 99, 107]))) (dCons (dC (.str (Sg [115, 112, 97, 110]))) (dCons (dC (.str (Sg [114, 111, 111, 116]))) dNil))))))))))) (seqF (setF 5 (dLc (dIts rng1 (dCons (dVar 2) dNil)) (tgN 6) dYes (dOp ixD (dVar 4) (dOp ixD (dVar 3) (dOp addD (dOp mulX (dC (.int 3)) (dVar 6)) (dC (.int 2))))) [6])) (seqF (stoF 5 (dOp ixD (dVar 3) (dC (.int 0))) (dC (.str (Sg [114, 111, 111, 116])))) (seqF (setF 7 (dLst dNil)) (seqF (forF (dIts rng1 (dCons (dVar 2) dNil)) (tgN 6) Lp_l_grammar_2) (retF (dTup (dCons (dOp ixD (dVar 1) (dOp ixD (dVar 3) (dC (.int 0)))) (dCons (dVar 7) dNil)))))))))))
def F_l_grammar : List D → Res D := runF 12 false Fb_l_grammar
def Fb_l_usual : Rho → SR := (retF (dLst (dCons (dTup (dCons (dC (.str (Sg [100, 111, 99]))) (dCons (dC (.str (Sg [114, 111, 111, 116]))) (dCons (dTup (dCons (dC (.str (Sg [104, 101, 97, 100]))) (dCons (dC (.str (Sg [112, 97, 114]))) dNil))) dNil)))) (dCons (dTup (dCons (dC (.str (Sg [104, 101, 97, 100]))) (dCons (dC (.str (Sg [104, 101, 97, 100]))) (dCons (dTup (dCons (dC (.str (Sg [101, 109]))) (dCons (dC (.str (Sg [115, 101, 101]))) dNil))) dNil)))) (dCons (dTup (dCons (dC (.str (Sg [112, 97, 114]))) (dCons (dC (.str (Sg [98, 108, 111, 99, 107]))) (dCons (dTup (dCons (dC (.str (Sg [101, 109]))) (dCons (dC (.str (Sg [110, 111, 116, 101]))) (dCons (dC (.str (Sg [102, 105, 103]))) (dCons (dC (.str (Sg [115, 101, 101]))) dNil))))) dNil)))) (dCons (dTup (dCons (dC (.str (Sg [101, 109]))) (dCons (dC (.str (Sg [115, 112, 97, 110]))) (dCons (dTup (dCons (dC (.str (Sg [101, 109]))) (dCons (dC (.str (Sg [115, 101, 101]))) dNil))) dNil)))) (dCons (dTup (dCons (dC (.str (Sg [110, 111, 116, 101]))) (dCons (dC (.str (Sg [110, 111, 116, 101]))) (dCons (dTup (dCons (dC (.str (Sg [101, 109]))) dNil)) dNil)))) (dCons (dTup (dCons (dC (.str (Sg [102, 105, 103]))) (dCons (dC (.str (Sg [102, 105, 103, 117, 114, 101]))) (dCons (dTup (dCons (dC (.str (Sg [101, 109]))) dNil)) dNil)))) (dCons (dTup (dCons (dC (.str (Sg [115, 101, 101]))) (dCons (dC (.str (Sg [114, 101, 102]))) (dCons (dTup dNil) dNil)))) dNil)))))))))
def F_l_usual : List D → Res D := runF 0 false Fb_l_usual
def Lp_l_table_1 : Rho → SR := (putF 1 (dOp ixD (dVar 2) (dC (.int 0))) (dTup (dCons (dOp ixD (dVar 2) (dC (.int 1))) (dCons (dOp ixD (dVar 2) (dC (.int 2))) dNil))))
def Fb_l_table : Rho → SR := (seqF (setF 1 dD0) (seqF (forF (dIt itemsL (dVar 0)) (tgN 2) Lp_l_table_1) (retF (dVar 1))))
def F_l_table : List D → Res D := runF 3 false Fb_l_table
def Lp_l_ways_1 : Rho → SR := (setF 5 (dOp addD (dVar 5) (dOp mulX (dCall (g1 sumD) (dCons (dLc (dIt itemsT (dVar 0)) (tgN 7) dYes (dOp getZ (dVar 2) (dTup (dCons (dVar 7) (dCons (dVar 6) dNil)))) [7]) dNil)) (dOp ixD (dVar 3) (dOp subD (dVar 4) (dVar 6))))))
def Lp_l_ways_2 : Rho → SR := (seqF (setF 5 (dC (.int 0))) (seqF (forF (dIts rng2 (dCons (dC (.int 1)) (dCons (dOp addD (dVar 4) (dC (.int 1))) dNil))) (tgN 6) Lp_l_ways_1) (appF 3 (dVar 5))))
def Fb_l_ways : Rho → SR := (seqF (setF 3 (dLst (dCons (dC (.int 1)) dNil))) (seqF (forF (dIts rng2 (dCons (dC (.int 1)) (dCons (dOp addD (dVar 1) (dC (.int 1))) dNil))) (tgN 4) Lp_l_ways_2) (retF (dOp ixD (dVar 3) (dVar 1)))))
def F_l_ways : List D → Res D := runF 8 false Fb_l_ways
def Lp_l_counts_1 : Rho → SR := (putT 2 (dTup (dCons (dOp ixD (dVar 4) (dC (.int 0))) (dCons (dVar 3) dNil))) (dOp mulX (dCall (g1 lenD) (dCons (dVar 1) dNil)) (dCall F_l_ways (dCons (dOp ixD (dVar 4) (dC (.int 2))) (dCons (dOp subD (dVar 3) (dC (.int 1))) (dCons (dVar 2) dNil))))))
def Lp_l_counts_2 : Rho → SR := (forF (dIt itemsL (dVar 0)) (tgN 4) Lp_l_counts_1)
def Fb_l_counts : Rho → SR := (seqF (setF 2 dT0) (seqF (forF (dIts rng2 (dCons (dC (.int 1)) (dCons (dC (.int 6)) dNil))) (tgN 3) Lp_l_counts_2) (retF (dVar 2))))
def F_l_counts : List D → Res D := runF 5 false Fb_l_counts
def Lp_l_size_1 (Fself : List D → Res D) : Rho → SR := (seqF (setF 6 (dCall Fself (dCons (dVar 5) (dCons (dOp ixD (dOp getZ (dVar 2) (dOp ixD (dVar 0) (dC (.int 0)))) (dC (.int 1))) (dCons (dVar 2) (dCons (dVar 3) dNil)))))) (seqF (ifF (dT (dOp eqD (dVar 6) (dC (.int 0)))) (retF (dC (.int 0))) .nx) (setF 4 (dOp addD (dVar 4) (dVar 6)))))
def Fb_l_size (Fself : List D → Res D) : Rho → SR := (seqF (ifF (dOr (dNot (dT (dUn (isiD "tuple") (dVar 0)))) (dOr (dT (dOp neD (dCall (g1 lenD) (dCons (dVar 0) dNil)) (dC (.int 3)))) (dNot (dT (dUn (isiD "tuple") (dOp ixD (dVar 0) (dC (.int 2)))))))) (retF (dC (.int 0))) .nx) (seqF (ifF (dOr (dNot (dT (dUn (isiD "str") (dOp ixD (dVar 0) (dC (.int 0)))))) (dOr (dT (dOp ninD (dOp ixD (dVar 0) (dC (.int 0))) (dVar 1))) (dOr (dNot (dT (dUn (isiD "str") (dOp ixD (dVar 0) (dC (.int 1)))))) (dT (dOp ninD (dOp ixD (dVar 0) (dC (.int 1))) (dVar 3)))))) (retF (dC (.int 0))) .nx) (seqF (setF 4 (dC (.int 1))) (seqF (forF (dIt itemsT (dOp ixD (dVar 0) (dC (.int 2)))) (tgN 5) (Lp_l_size_1 Fself)) (retF (dVar 4))))))
def F_l_size : Nat → List D → Res D
  | 0 => fun _ => .bad
  | n + 1 => runF 7 false (Fb_l_size (F_l_size n))
def Lp_l_all_1 : Rho → SR := (seqF (ifF (dT (dOp neD (dCall (F_l_size 8) (dCons (dOp ixD (dVar 7) (dVar 8)) (dCons (dTup (dCons (dVar 1) dNil)) (dCons (dVar 5) (dCons (dVar 4) dNil))))) (dVar 3))) (retF (dC (.bl false))) .nx) (seqF (ifF (dAnd (dT (dOp gtD (dVar 8) (dC (.int 0)))) (dNot (dT (dOp ltDD (dOp ixD (dVar 7) (dOp subD (dVar 8) (dC (.int 1)))) (dOp ixD (dVar 7) (dVar 8)))))) (retF (dC (.bl false))) .nx) (ifF (dT (dOp (isD true) (dMeth "Grammar" "check" F_Grammar_check (dVar 0) (dCons (dOp ixD (dVar 7) (dVar 8)) dNil)) (dC .non))) (retF (dC (.bl false))) .nx)))
def Fb_l_all : Rho → SR := (seqF (setF 5 (dCall F_l_table (dCons (dVar 2) dNil))) (seqF (setF 6 (dCall (g1 listD) (dCons (dVar 4) dNil))) (seqF (setF 7 (dListG (dMethGA "Grammar" "every_tree" F_Grammar_every_tree (dVar 0) (dCons (dVar 3) (dCons (dVar 6) dNil))))) (seqF (ifF (dOr (dT (dOp neD (dCall (g1 lenD) (dCons (dVar 7) dNil)) (dOp getZ (dCall F_l_counts (dCons (dVar 2) (dCons (dVar 4) dNil))) (dTup (dCons (dVar 1) (dCons (dVar 3) dNil)))))) (dT (dOp neD (dVar 6) (dVar 4)))) (retF (dC (.bl false))) .nx) (seqF (forF (dIts rng1 (dCons (dCall (g1 lenD) (dCons (dVar 7) dNil)) dNil)) (tgN 8) Lp_l_all_1) (retF (dC (.bl true))))))))
def F_l_all : List D → Res D := runF 9 false Fb_l_all
def Lp_law_1 : Rho → SR := (appPopF 9 7 (dOp modD (dCall (g1 intD) (dCons (dVar 10) dNil)) (dCall (g1 lenD) (dCons (dVar 7) dNil))))
def Lp_law_2 : Rho → SR := (seqF (ifF (dT (dOp gtD (dOp getZ (dVar 13) (dTup (dCons (dVar 3) (dCons (dVar 14) dNil)))) (dC (.int 400)))) .bk .nx) (ifF (dNot (dT (dCall F_l_all (dCons (dVar 11) (dCons (dVar 3) (dCons (dVar 4) (dCons (dVar 14) (dCons (dVar 9) dNil)))))))) (retF (dC (.bl false))) .nx))
def Fb_law : Rho → SR := (seqF (setF 1 (dCall F_l_kinds (dCons (dCall F_l_cell (dCons (dVar 0) (dCons (dC (.int 1)) dNil))) (dCons (dC (.int 9)) dNil)))) (seqF (setF 2 (dOp addD (dC (.int 1)) (dOp modD (dCall (g1 intD) (dCons (dCall F_l_cell (dCons (dVar 0) (dCons (dC (.int 3)) dNil))) dNil)) (dC (.int 6))))) (seqF (asgF (tgT 2 (tgCons (tgN 3) (tgCons (tgN 4) tgNil))) (dCall F_l_grammar (dCons (dCall F_l_cell (dCons (dVar 0) (dCons (dC (.int 0)) dNil))) (dCons (dSl slD (dVar 1) dNoP (dPart (dVar 2))) dNil)))) (seqF (parF 5 6 (dC (.str (Sg [100, 111, 99]))) (dCall F_l_usual dNil)) (seqF (ifF (dT (dOp eqD (dOp modD (dCall (g1 intD) (dCons (dCall F_l_cell (dCons (dVar 0) (dCons (dC (.int 5)) dNil))) dNil)) (dC (.int 3))) (dC (.int 1)))) (seqF (parF 5 6 (dVar 3) (dVar 4)) (parF 3 4 (dC (.str (Sg [100, 111, 99]))) (dCall F_l_usual dNil))) .nx) (seqF (setF 7 (dLst (dCons (dC (.str (Sg []))) (dCons (dOp ixD (dVar 1) (dC (.int 7))) (dCons (dOp ixD (dVar 1) (dC (.int 8))) (dCons (dOp ixD (dVar 1) (dC (.int 0))) dNil)))))) (seqF (setF 8 (dCall F_l_row (dCons (dCall F_l_cell (dCons (dVar 0) (dCons (dC (.int 2)) dNil))) (dCons (dLst (dCons (dC (.int 4)) (dCons (dC (.int 4)) (dCons (dC (.int 4)) (dCons (dC (.int 4)) dNil))))) dNil)))) (seqF (setF 9 (dLst dNil)) (seqF (forF (dIt itemsL (dSl slD (dVar 8) (dPart (dC (.int 1))) (dPart (dOp addD (dC (.int 1)) (dOp ixD (dLst (dCons (dC (.int 1)) (dCons (dC (.int 2)) (dCons (dC (.int 3)) (dCons (dC (.int 0)) dNil))))) (dOp ixD (dVar 8) (dC (.int 0)))))))) (tgN 10) Lp_law_1) (seqF (setF 11 (dCall F_Grammar_init (dCons (dVar 3) (dCons (dCall (g1 listD) (dCons (dVar 4) dNil)) dNil)))) (seqF (setF 12 (dCall F_Grammar_init (dCons (dVar 5) (dCons (dCall (g1 listD) (dCons (dVar 6) dNil)) dNil)))) (seqF (setF 13 (dCall F_l_counts (dCons (dVar 4) (dCons (dVar 9) dNil)))) (seqF (forF (dIts rng2 (dCons (dC (.int 1)) (dCons (dOp addD (dC (.int 2)) (dOp modD (dCall (g1 intD) (dCons (dCall F_l_cell (dCons (dVar 0) (dCons (dC (.int 4)) dNil))) dNil)) (dC (.int 5)))) dNil))) (tgN 14) Lp_law_2) (seqF (ifF (dNot (dT (dCall F_l_all (dCons (dVar 12) (dCons (dVar 5) (dCons (dVar 6) (dCons (dC (.int 2)) (dCons (dVar 9) dNil)))))))) (retF (dC (.bl false))) .nx) (retF (dCall F_l_all (dCons (dVar 11) (dCons (dVar 3) (dCons (dVar 4) (dCons (dC (.int 1)) (dCons (dVar 9) dNil)))))))))))))))))))))
def F_law : List D → Res D := runF 15 false Fb_law
end
end Lk
end S_P_data
section S_MM_ta
set_option Elab.async false
set_option linter.all false
set_option maxHeartbeats 2000000
set_option maxRecDepth 100000
namespace Lk
open PySem L2 Dx
local macro_rules
  | `(tactic| array_get_dec) => `(tactic| repeat (first
    | ((with_reducible apply Dx.rs_asSJ); · (first | omega | (simp only [List.length_append, List.length_cons, List.length_nil, List.length_map, List.length_range, List.length_replicate, List.length_reverse, List.length_take, List.length_drop]; omega)))
    | with_reducible refine Dx.rs_c ?_
    | with_reducible refine Dx.rs_op ?_
    | with_reducible refine Dx.rs_str ?_
    | with_reducible refine Dx.rs_asS ?_
    | with_reducible refine Dx.rs_un ?_
    | with_reducible refine Dx.rs_nil ?_
    | with_reducible refine Dx.rs_cons ?_
    | with_reducible refine Dx.rs_call ?_
    | with_reducible refine Dx.rs_T ?_
    | with_reducible refine Dx.rs_asB ?_
    | with_reducible refine Dx.rs_asI ?_
    | with_reducible refine Dx.rs_not ?_
    | with_reducible refine Dx.rs_and ?_
    | with_reducible refine Dx.rs_or ?_
    | with_reducible refine Dx.rs_andV ?_
    | with_reducible refine Dx.rs_orV ?_
    | with_reducible refine Dx.rs_notV ?_
    | with_reducible refine Dx.rs_chain ?_
    | with_reducible refine Dx.rs_noP ?_
    | with_reducible refine Dx.rs_part ?_
    | with_reducible refine Dx.rs_sl ?_
    | with_reducible refine Dx.rs_it ?_
    | with_reducible refine Dx.rs_its ?_
    | with_reducible refine Dx.rs_yes ?_
    | with_reducible refine Dx.rs_meth ?_
    | with_reducible refine Dx.rs_tru ?_
    | with_reducible refine Dx.rs_truB ?_
    | with_reducible refine Dx.rs_truI ?_
    | with_reducible refine Dx.rs_truL ?_
    | with_reducible refine Dx.rs_truT ?_
    | with_reducible refine Dx.rs_truN ?_
    | with_reducible refine Dx.rs_ifx ?_
    | with_reducible refine Dx.rs_add ?_
    | with_reducible refine Dx.rs_sub ?_
    | with_reducible refine Dx.rs_neg ?_
    | with_reducible refine Dx.rs_eqI ?_
    | with_reducible refine Dx.rs_neI ?_
    | with_reducible refine Dx.rs_eqS ?_
    | with_reducible refine Dx.rs_neS ?_
    | with_reducible refine Dx.rs_eqB ?_
    | with_reducible refine Dx.rs_neB ?_
    | with_reducible refine Dx.rs_lt ?_
    | with_reducible refine Dx.rs_le ?_
    | with_reducible refine Dx.rs_gt ?_
    | with_reducible refine Dx.rs_ge ?_
    | with_reducible refine Dx.rs_is ?_
    | with_reducible refine Dx.rs_isn ?_
    | with_reducible refine Dx.rs_inS ?_
    | with_reducible refine Dx.rs_ninS ?_
    | with_reducible refine Dx.rs_lenL ?_
    | with_reducible refine Dx.rs_lenF ?_
    | with_reducible refine Dx.rs_lenT ?_
    | with_reducible refine Dx.rs_int ?_
    | with_reducible refine Dx.rs_intB ?_
    | with_reducible refine Dx.rs_abs ?_
    | with_reducible refine Dx.rs_listL ?_
    | with_reducible refine Dx.rs_listT ?_
    | with_reducible refine Dx.rs_tupL ?_
    | with_reducible refine Dx.rs_tupT ?_
    | with_reducible refine Dx.rs_slL ?_
    | with_reducible refine Dx.rs_slO ?_
    | with_reducible refine Dx.rs_slT ?_
    | with_reducible refine Dx.rs_itsL ?_
    | with_reducible refine Dx.rs_itsT ?_
    | with_reducible refine Dx.rs_itsS ?_
    | with_reducible refine Dx.rs_enL ?_
    | with_reducible refine Dx.rs_enT ?_
    | with_reducible refine Dx.rs_enS ?_
    | with_reducible refine Dx.rs_ints ?_
    | with_reducible refine Dx.rs_sortI ?_
    | with_reducible refine Dx.rs_sum ?_
    | with_reducible refine Dx.rs_g2 ?_
    | with_reducible refine Dx.rs_all ?_
    | with_reducible refine Dx.rs_disp ?_
    | with_reducible refine Dx.rs_pnil ?_
    | with_reducible refine Dx.rs_pcons ?_
    | with_reducible refine Dx.rs_jnil ?_
    | with_reducible refine Dx.rs_jcons ?_
    | with_reducible refine Dx.rs_dJoin ?_
    | with_reducible refine Dx.rs_ord ?_
    | with_reducible refine Dx.rs_leS ?_
    | with_reducible refine Dx.rs_inKI ?_
    | with_reducible refine Dx.rs_inI ?_
    | with_reducible refine Dx.rs_ninI ?_
    | with_reducible refine Dx.rs_inTk ?_
    | with_reducible refine Dx.rs_getET ?_
    | with_reducible refine Dx.rs_dD0 ?_
    | with_reducible refine Dx.rs_listTk ?_
    | with_reducible refine Dx.rs_lenTk ?_
    | with_reducible refine Dx.rs_itTk ?_
    | with_reducible refine Dx.rs_end ?_
    | with_reducible refine Dx.rs_start ?_
    | with_reducible refine Dx.rs_star ?_
    | with_reducible refine Dx.rs_itemsL ?_
    | with_reducible refine Dx.rs_itemsT ?_
    | with_reducible refine Dx.rs_zipL ?_
    | with_reducible refine Dx.rs_zipS ?_
    | with_reducible refine Dx.rs_isi_non_bool ?_
    | with_reducible refine Dx.rs_isi_non_int ?_
    | with_reducible refine Dx.rs_isi_non_str ?_
    | with_reducible refine Dx.rs_isi_non_tuple ?_
    | with_reducible refine Dx.rs_isi_non_list ?_
    | with_reducible refine Dx.rs_isi_bl_bool ?_
    | with_reducible refine Dx.rs_isi_bl_int ?_
    | with_reducible refine Dx.rs_isi_bl_str ?_
    | with_reducible refine Dx.rs_isi_bl_tuple ?_
    | with_reducible refine Dx.rs_isi_bl_list ?_
    | with_reducible refine Dx.rs_isi_int_bool ?_
    | with_reducible refine Dx.rs_isi_int_int ?_
    | with_reducible refine Dx.rs_isi_int_str ?_
    | with_reducible refine Dx.rs_isi_int_tuple ?_
    | with_reducible refine Dx.rs_isi_int_list ?_
    | with_reducible refine Dx.rs_isi_str_bool ?_
    | with_reducible refine Dx.rs_isi_str_int ?_
    | with_reducible refine Dx.rs_isi_str_str ?_
    | with_reducible refine Dx.rs_isi_str_tuple ?_
    | with_reducible refine Dx.rs_isi_str_list ?_
    | with_reducible refine Dx.rs_isi_lst_bool ?_
    | with_reducible refine Dx.rs_isi_lst_int ?_
    | with_reducible refine Dx.rs_isi_lst_str ?_
    | with_reducible refine Dx.rs_isi_lst_tuple ?_
    | with_reducible refine Dx.rs_isi_lst_list ?_
    | with_reducible refine Dx.rs_isi_tup_bool ?_
    | with_reducible refine Dx.rs_isi_tup_int ?_
    | with_reducible refine Dx.rs_isi_tup_str ?_
    | with_reducible refine Dx.rs_isi_tup_tuple ?_
    | with_reducible refine Dx.rs_isi_tup_list ?_
    | with_reducible refine Dx.ss_nx ?_
    | with_reducible refine Dx.ss_bk ?_
    | with_reducible refine Dx.ss_ct ?_
    | with_reducible refine Dx.ss_seq ?_
    | with_reducible refine Dx.ss_set ?_
    | with_reducible refine Dx.ss_ret ?_
    | with_reducible refine Dx.ss_drop ?_
    | with_reducible refine Dx.ss_if ?_
    | with_reducible refine Dx.ss_par ?_
    | with_reducible refine Dx.ss_par3 ?_
    | with_reducible refine Dx.ss_aug ?_
    | ((with_reducible apply Dx.rs_var); · (rfl))
    | ((with_reducible apply Dx.rs_ixL); · (first | rfl | assumption))
    | ((with_reducible apply Dx.rs_ixF); · (first | rfl | assumption))
    | ((with_reducible apply Dx.rs_ixT); · (first | rfl | assumption))
    | ((with_reducible apply Dx.rs_fld); · (rfl))
    | ((with_reducible apply Dx.rs_isObj); · (decide))
    | ((with_reducible apply Dx.rs_mod); · (omega))
    | ((with_reducible apply Dx.rs_fdiv); · (omega))
    | ((with_reducible apply Dx.rs_addS); · ((first | exact Nat.le_of_ble_eq_true rfl | assumption | (refine Nat.le_trans (m := 100000) ?_ Dx.sz5; first | omega | (simp only [List.length_append, List.length_cons, List.length_nil, List.length_map, List.length_range, List.length_replicate, List.length_reverse, List.length_take, List.length_drop]; omega)))))
    | ((with_reducible apply Dx.rs_addT); · ((first | exact Nat.le_of_ble_eq_true rfl | assumption | (refine Nat.le_trans (m := 100000) ?_ Dx.sz5; first | omega | (simp only [List.length_append, List.length_cons, List.length_nil, List.length_map, List.length_range, List.length_replicate, List.length_reverse, List.length_take, List.length_drop]; omega)))))
    | ((with_reducible apply Dx.rs_addLL); · ((first | exact Nat.le_of_ble_eq_true rfl | assumption | (refine Nat.le_trans (m := 100000) ?_ Dx.sz5; first | omega | (simp only [List.length_append, List.length_cons, List.length_nil, List.length_map, List.length_range, List.length_replicate, List.length_reverse, List.length_take, List.length_drop]; omega)))))
    | ((with_reducible apply Dx.rs_addLO); · ((first | exact Nat.le_of_ble_eq_true rfl | assumption | (refine Nat.le_trans (m := 100000) ?_ Dx.sz5; first | omega | (simp only [List.length_append, List.length_cons, List.length_nil, List.length_map, List.length_range, List.length_replicate, List.length_reverse, List.length_take, List.length_drop]; omega)))))
    | ((with_reducible apply Dx.rs_lenS); · ((first | exact Nat.le_of_ble_eq_true rfl | assumption | (refine Nat.le_trans (m := 100000) ?_ Dx.sz5; first | omega | (simp only [List.length_append, List.length_cons, List.length_nil, List.length_map, List.length_range, List.length_replicate, List.length_reverse, List.length_take, List.length_drop]; omega)))))
    | ((with_reducible apply Dx.rs_slS); · ((first | exact Nat.le_of_ble_eq_true rfl | assumption | (refine Nat.le_trans (m := 100000) ?_ Dx.sz5; first | omega | (simp only [List.length_append, List.length_cons, List.length_nil, List.length_map, List.length_range, List.length_replicate, List.length_reverse, List.length_take, List.length_drop]; omega)))))
    | ((with_reducible apply Dx.rs_mul); · ((first | exact Or.inl (Dx.small_of (by omega) (by omega)) | exact Or.inr (Dx.small_of (by omega) (by omega)))))
    | ((with_reducible apply Dx.rs_strI); · (omega))
    | ((with_reducible apply Dx.rs_fmtI); · (omega))
    | ((with_reducible apply Dx.rs_fmtS); · ((first | exact Nat.le_of_ble_eq_true rfl | assumption | (refine Nat.le_trans (m := 100000) ?_ Dx.sz5; first | omega | (simp only [List.length_append, List.length_cons, List.length_nil, List.length_map, List.length_range, List.length_replicate, List.length_reverse, List.length_take, List.length_drop]; omega)))))
    | ((with_reducible apply Dx.rs_split); · (refine And.intro (by decide) ?_; (first | exact Nat.le_of_ble_eq_true rfl | assumption | (refine Nat.le_trans (m := 100000) ?_ Dx.sz5; first | omega | (simp only [List.length_append, List.length_cons, List.length_nil, List.length_map, List.length_range, List.length_replicate, List.length_reverse, List.length_take, List.length_drop]; omega)))))
    | ((with_reducible apply Dx.ss_app); · (rfl))
    | (with_reducible refine Dx.rs_tup ?_)
    | (with_reducible refine Dx.rs_lst ?_)
    | ((with_reducible refine And.intro (a := List.length _ ≤ PySem.sizeLine) ?_ ?_); · ((first | exact Nat.le_of_ble_eq_true rfl | assumption | (refine Nat.le_trans (m := 100000) ?_ Dx.sz5; first | omega | (simp only [List.length_append, List.length_cons, List.length_nil, List.length_map, List.length_range, List.length_replicate, List.length_reverse, List.length_take, List.length_drop]; omega)))))
    | ((with_reducible refine And.intro (a := List.length _ < PySem.sizeLine) ?_ ?_); · (first | exact Nat.le_of_ble_eq_true rfl | (refine Nat.lt_of_lt_of_le (m := 100000) ?_ Dx.sz5; first | omega | (simp only [List.length_append, List.length_cons, List.length_nil, List.length_map, List.length_range, List.length_replicate, List.length_reverse, List.length_take, List.length_drop]; omega))))))
local macro_rules
  | `(tactic| array_mem_dec) => `(tactic| repeat (first
    | with_reducible refine Dx.ss_ifo ?_
    | with_reducible refine Dx.ss_ifa ?_
    | with_reducible refine Dx.rs_andc ?_
    | with_reducible refine Dx.rs_orc ?_
    | with_reducible refine Dx.rs_andVc ?_
    | with_reducible refine Dx.rs_orVc ?_
    | ((with_reducible apply Dx.rs_asSJ); · (first | omega | (simp only [List.length_append, List.length_cons, List.length_nil, List.length_map, List.length_range, List.length_replicate, List.length_reverse, List.length_take, List.length_drop]; omega)))
    | with_reducible refine Dx.rs_c ?_
    | with_reducible refine Dx.rs_op ?_
    | with_reducible refine Dx.rs_str ?_
    | with_reducible refine Dx.rs_asS ?_
    | with_reducible refine Dx.rs_un ?_
    | with_reducible refine Dx.rs_nil ?_
    | with_reducible refine Dx.rs_cons ?_
    | with_reducible refine Dx.rs_call ?_
    | with_reducible refine Dx.rs_T ?_
    | with_reducible refine Dx.rs_asB ?_
    | with_reducible refine Dx.rs_asI ?_
    | with_reducible refine Dx.rs_not ?_
    | with_reducible refine Dx.rs_notV ?_
    | with_reducible refine Dx.rs_chain ?_
    | with_reducible refine Dx.rs_noP ?_
    | with_reducible refine Dx.rs_part ?_
    | with_reducible refine Dx.rs_sl ?_
    | with_reducible refine Dx.rs_it ?_
    | with_reducible refine Dx.rs_its ?_
    | with_reducible refine Dx.rs_yes ?_
    | with_reducible refine Dx.rs_meth ?_
    | with_reducible refine Dx.rs_tru ?_
    | with_reducible refine Dx.rs_truB ?_
    | with_reducible refine Dx.rs_truI ?_
    | with_reducible refine Dx.rs_truL ?_
    | with_reducible refine Dx.rs_truT ?_
    | with_reducible refine Dx.rs_truN ?_
    | with_reducible refine Dx.rs_add ?_
    | with_reducible refine Dx.rs_sub ?_
    | with_reducible refine Dx.rs_neg ?_
    | with_reducible refine Dx.rs_eqI ?_
    | with_reducible refine Dx.rs_neI ?_
    | with_reducible refine Dx.rs_eqS ?_
    | with_reducible refine Dx.rs_neS ?_
    | with_reducible refine Dx.rs_eqB ?_
    | with_reducible refine Dx.rs_neB ?_
    | with_reducible refine Dx.rs_lt ?_
    | with_reducible refine Dx.rs_le ?_
    | with_reducible refine Dx.rs_gt ?_
    | with_reducible refine Dx.rs_ge ?_
    | with_reducible refine Dx.rs_is ?_
    | with_reducible refine Dx.rs_isn ?_
    | with_reducible refine Dx.rs_inS ?_
    | with_reducible refine Dx.rs_ninS ?_
    | with_reducible refine Dx.rs_lenL ?_
    | with_reducible refine Dx.rs_lenF ?_
    | with_reducible refine Dx.rs_lenT ?_
    | with_reducible refine Dx.rs_int ?_
    | with_reducible refine Dx.rs_intB ?_
    | with_reducible refine Dx.rs_abs ?_
    | with_reducible refine Dx.rs_listL ?_
    | with_reducible refine Dx.rs_listT ?_
    | with_reducible refine Dx.rs_tupL ?_
    | with_reducible refine Dx.rs_tupT ?_
    | with_reducible refine Dx.rs_slL ?_
    | with_reducible refine Dx.rs_slO ?_
    | with_reducible refine Dx.rs_slT ?_
    | with_reducible refine Dx.rs_itsL ?_
    | with_reducible refine Dx.rs_itsT ?_
    | with_reducible refine Dx.rs_itsS ?_
    | with_reducible refine Dx.rs_enL ?_
    | with_reducible refine Dx.rs_enT ?_
    | with_reducible refine Dx.rs_enS ?_
    | with_reducible refine Dx.rs_ints ?_
    | with_reducible refine Dx.rs_sortI ?_
    | with_reducible refine Dx.rs_sum ?_
    | with_reducible refine Dx.rs_g2 ?_
    | with_reducible refine Dx.rs_all ?_
    | with_reducible refine Dx.rs_disp ?_
    | with_reducible refine Dx.rs_pnil ?_
    | with_reducible refine Dx.rs_pcons ?_
    | with_reducible refine Dx.rs_jnil ?_
    | with_reducible refine Dx.rs_jcons ?_
    | with_reducible refine Dx.rs_dJoin ?_
    | with_reducible refine Dx.rs_ord ?_
    | with_reducible refine Dx.rs_leS ?_
    | with_reducible refine Dx.rs_inKI ?_
    | with_reducible refine Dx.rs_inI ?_
    | with_reducible refine Dx.rs_ninI ?_
    | with_reducible refine Dx.rs_inTk ?_
    | with_reducible refine Dx.rs_getET ?_
    | with_reducible refine Dx.rs_dD0 ?_
    | with_reducible refine Dx.rs_listTk ?_
    | with_reducible refine Dx.rs_lenTk ?_
    | with_reducible refine Dx.rs_itTk ?_
    | with_reducible refine Dx.rs_end ?_
    | with_reducible refine Dx.rs_start ?_
    | with_reducible refine Dx.rs_star ?_
    | with_reducible refine Dx.rs_itemsL ?_
    | with_reducible refine Dx.rs_itemsT ?_
    | with_reducible refine Dx.rs_zipL ?_
    | with_reducible refine Dx.rs_zipS ?_
    | with_reducible refine Dx.rs_isi_non_bool ?_
    | with_reducible refine Dx.rs_isi_non_int ?_
    | with_reducible refine Dx.rs_isi_non_str ?_
    | with_reducible refine Dx.rs_isi_non_tuple ?_
    | with_reducible refine Dx.rs_isi_non_list ?_
    | with_reducible refine Dx.rs_isi_bl_bool ?_
    | with_reducible refine Dx.rs_isi_bl_int ?_
    | with_reducible refine Dx.rs_isi_bl_str ?_
    | with_reducible refine Dx.rs_isi_bl_tuple ?_
    | with_reducible refine Dx.rs_isi_bl_list ?_
    | with_reducible refine Dx.rs_isi_int_bool ?_
    | with_reducible refine Dx.rs_isi_int_int ?_
    | with_reducible refine Dx.rs_isi_int_str ?_
    | with_reducible refine Dx.rs_isi_int_tuple ?_
    | with_reducible refine Dx.rs_isi_int_list ?_
    | with_reducible refine Dx.rs_isi_str_bool ?_
    | with_reducible refine Dx.rs_isi_str_int ?_
    | with_reducible refine Dx.rs_isi_str_str ?_
    | with_reducible refine Dx.rs_isi_str_tuple ?_
    | with_reducible refine Dx.rs_isi_str_list ?_
    | with_reducible refine Dx.rs_isi_lst_bool ?_
    | with_reducible refine Dx.rs_isi_lst_int ?_
    | with_reducible refine Dx.rs_isi_lst_str ?_
    | with_reducible refine Dx.rs_isi_lst_tuple ?_
    | with_reducible refine Dx.rs_isi_lst_list ?_
    | with_reducible refine Dx.rs_isi_tup_bool ?_
    | with_reducible refine Dx.rs_isi_tup_int ?_
    | with_reducible refine Dx.rs_isi_tup_str ?_
    | with_reducible refine Dx.rs_isi_tup_tuple ?_
    | with_reducible refine Dx.rs_isi_tup_list ?_
    | with_reducible refine Dx.ss_nx ?_
    | with_reducible refine Dx.ss_bk ?_
    | with_reducible refine Dx.ss_ct ?_
    | with_reducible refine Dx.ss_seq ?_
    | with_reducible refine Dx.ss_set ?_
    | with_reducible refine Dx.ss_ret ?_
    | with_reducible refine Dx.ss_drop ?_
    | with_reducible refine Dx.ss_if ?_
    | with_reducible refine Dx.ss_par ?_
    | with_reducible refine Dx.ss_par3 ?_
    | with_reducible refine Dx.ss_aug ?_
    | ((with_reducible apply Dx.rs_var); · (rfl))
    | ((with_reducible apply Dx.rs_ixL); · (first | rfl | assumption))
    | ((with_reducible apply Dx.rs_ixF); · (first | rfl | assumption))
    | ((with_reducible apply Dx.rs_ixT); · (first | rfl | assumption))
    | ((with_reducible apply Dx.rs_fld); · (rfl))
    | ((with_reducible apply Dx.rs_isObj); · (decide))
    | ((with_reducible apply Dx.rs_mod); · (omega))
    | ((with_reducible apply Dx.rs_fdiv); · (omega))
    | ((with_reducible apply Dx.rs_addS); · ((first | exact Nat.le_of_ble_eq_true rfl | assumption | (refine Nat.le_trans (m := 100000) ?_ Dx.sz5; first | omega | (simp only [List.length_append, List.length_cons, List.length_nil, List.length_map, List.length_range, List.length_replicate, List.length_reverse, List.length_take, List.length_drop]; omega)))))
    | ((with_reducible apply Dx.rs_addT); · ((first | exact Nat.le_of_ble_eq_true rfl | assumption | (refine Nat.le_trans (m := 100000) ?_ Dx.sz5; first | omega | (simp only [List.length_append, List.length_cons, List.length_nil, List.length_map, List.length_range, List.length_replicate, List.length_reverse, List.length_take, List.length_drop]; omega)))))
    | ((with_reducible apply Dx.rs_addLL); · ((first | exact Nat.le_of_ble_eq_true rfl | assumption | (refine Nat.le_trans (m := 100000) ?_ Dx.sz5; first | omega | (simp only [List.length_append, List.length_cons, List.length_nil, List.length_map, List.length_range, List.length_replicate, List.length_reverse, List.length_take, List.length_drop]; omega)))))
    | ((with_reducible apply Dx.rs_addLO); · ((first | exact Nat.le_of_ble_eq_true rfl | assumption | (refine Nat.le_trans (m := 100000) ?_ Dx.sz5; first | omega | (simp only [List.length_append, List.length_cons, List.length_nil, List.length_map, List.length_range, List.length_replicate, List.length_reverse, List.length_take, List.length_drop]; omega)))))
    | ((with_reducible apply Dx.rs_lenS); · ((first | exact Nat.le_of_ble_eq_true rfl | assumption | (refine Nat.le_trans (m := 100000) ?_ Dx.sz5; first | omega | (simp only [List.length_append, List.length_cons, List.length_nil, List.length_map, List.length_range, List.length_replicate, List.length_reverse, List.length_take, List.length_drop]; omega)))))
    | ((with_reducible apply Dx.rs_slS); · ((first | exact Nat.le_of_ble_eq_true rfl | assumption | (refine Nat.le_trans (m := 100000) ?_ Dx.sz5; first | omega | (simp only [List.length_append, List.length_cons, List.length_nil, List.length_map, List.length_range, List.length_replicate, List.length_reverse, List.length_take, List.length_drop]; omega)))))
    | ((with_reducible apply Dx.rs_mul); · ((first | exact Or.inl (Dx.small_of (by omega) (by omega)) | exact Or.inr (Dx.small_of (by omega) (by omega)))))
    | ((with_reducible apply Dx.rs_strI); · (omega))
    | ((with_reducible apply Dx.rs_fmtI); · (omega))
    | ((with_reducible apply Dx.rs_fmtS); · ((first | exact Nat.le_of_ble_eq_true rfl | assumption | (refine Nat.le_trans (m := 100000) ?_ Dx.sz5; first | omega | (simp only [List.length_append, List.length_cons, List.length_nil, List.length_map, List.length_range, List.length_replicate, List.length_reverse, List.length_take, List.length_drop]; omega)))))
    | ((with_reducible apply Dx.rs_split); · (refine And.intro (by decide) ?_; (first | exact Nat.le_of_ble_eq_true rfl | assumption | (refine Nat.le_trans (m := 100000) ?_ Dx.sz5; first | omega | (simp only [List.length_append, List.length_cons, List.length_nil, List.length_map, List.length_range, List.length_replicate, List.length_reverse, List.length_take, List.length_drop]; omega)))))
    | ((with_reducible apply Dx.ss_app); · (rfl))
    | (with_reducible refine Dx.rs_tup ?_)
    | (with_reducible refine Dx.rs_lst ?_)
    | ((with_reducible refine And.intro (a := List.length _ ≤ PySem.sizeLine) ?_ ?_); · ((first | exact Nat.le_of_ble_eq_true rfl | assumption | (refine Nat.le_trans (m := 100000) ?_ Dx.sz5; first | omega | (simp only [List.length_append, List.length_cons, List.length_nil, List.length_map, List.length_range, List.length_replicate, List.length_reverse, List.length_take, List.length_drop]; omega)))))
    | ((with_reducible refine And.intro (a := List.length _ < PySem.sizeLine) ?_ ?_); · (first | exact Nat.le_of_ble_eq_true rfl | (refine Nat.lt_of_lt_of_le (m := 100000) ?_ Dx.sz5; first | omega | (simp only [List.length_append, List.length_cons, List.length_nil, List.length_map, List.length_range, List.length_replicate, List.length_reverse, List.length_take, List.length_drop]; omega))))
    | ((refine And.intro (fun h => absurd h ?_) (fun _ => ?_)); · (first | exact Bool.false_ne_true | (simp; done) | (simp; omega)))
    | ((refine And.intro (fun _ => ?_) (fun h => absurd h ?_)); rotate_left; · (first | exact (fun h => Bool.false_ne_true h.symm) | (simp; done) | (simp; omega)))))
local macro_rules
  | `(tactic| sizeOf_list_dec) => `(tactic| repeat (first
    | ((with_reducible apply Dx.rs_asSJ); · (first | omega | (simp only [List.length_append, List.length_cons, List.length_nil, List.length_map, List.length_range, List.length_replicate, List.length_reverse, List.length_take, List.length_drop]; omega)))
    | with_reducible refine Dx.rs_c ?_
    | with_reducible refine Dx.rs_op ?_
    | with_reducible refine Dx.rs_str ?_
    | with_reducible refine Dx.rs_asS ?_
    | with_reducible refine Dx.rs_un ?_
    | with_reducible refine Dx.rs_nil ?_
    | with_reducible refine Dx.rs_cons ?_
    | with_reducible refine Dx.rs_call ?_
    | with_reducible refine Dx.rs_T ?_
    | with_reducible refine Dx.rs_asB ?_
    | with_reducible refine Dx.rs_asI ?_
    | with_reducible refine Dx.rs_not ?_
    | with_reducible refine Dx.rs_and ?_
    | with_reducible refine Dx.rs_or ?_
    | with_reducible refine Dx.rs_andV ?_
    | with_reducible refine Dx.rs_orV ?_
    | with_reducible refine Dx.rs_notV ?_
    | with_reducible refine Dx.rs_chain ?_
    | with_reducible refine Dx.rs_noP ?_
    | with_reducible refine Dx.rs_part ?_
    | with_reducible refine Dx.rs_sl ?_
    | with_reducible refine Dx.rs_it ?_
    | with_reducible refine Dx.rs_its ?_
    | with_reducible refine Dx.rs_yes ?_
    | with_reducible refine Dx.rs_meth ?_
    | with_reducible refine Dx.rs_tru ?_
    | with_reducible refine Dx.rs_truB ?_
    | with_reducible refine Dx.rs_truI ?_
    | with_reducible refine Dx.rs_truL ?_
    | with_reducible refine Dx.rs_truT ?_
    | with_reducible refine Dx.rs_truN ?_
    | with_reducible refine Dx.rs_ifx ?_
    | with_reducible refine Dx.rs_add ?_
    | with_reducible refine Dx.rs_sub ?_
    | with_reducible refine Dx.rs_neg ?_
    | with_reducible refine Dx.rs_eqI ?_
    | with_reducible refine Dx.rs_neI ?_
    | with_reducible refine Dx.rs_eqS ?_
    | with_reducible refine Dx.rs_neS ?_
    | with_reducible refine Dx.rs_eqB ?_
    | with_reducible refine Dx.rs_neB ?_
    | with_reducible refine Dx.rs_lt ?_
    | with_reducible refine Dx.rs_le ?_
    | with_reducible refine Dx.rs_gt ?_
    | with_reducible refine Dx.rs_ge ?_
    | with_reducible refine Dx.rs_is ?_
    | with_reducible refine Dx.rs_isn ?_
    | with_reducible refine Dx.rs_inS ?_
    | with_reducible refine Dx.rs_ninS ?_
    | with_reducible refine Dx.rs_lenL ?_
    | with_reducible refine Dx.rs_lenF ?_
    | with_reducible refine Dx.rs_lenT ?_
    | with_reducible refine Dx.rs_int ?_
    | with_reducible refine Dx.rs_intB ?_
    | with_reducible refine Dx.rs_abs ?_
    | with_reducible refine Dx.rs_listL ?_
    | with_reducible refine Dx.rs_listT ?_
    | with_reducible refine Dx.rs_tupL ?_
    | with_reducible refine Dx.rs_tupT ?_
    | with_reducible refine Dx.rs_slL ?_
    | with_reducible refine Dx.rs_slO ?_
    | with_reducible refine Dx.rs_slT ?_
    | with_reducible refine Dx.rs_itsL ?_
    | with_reducible refine Dx.rs_itsT ?_
    | with_reducible refine Dx.rs_itsS ?_
    | with_reducible refine Dx.rs_enL ?_
    | with_reducible refine Dx.rs_enT ?_
    | with_reducible refine Dx.rs_enS ?_
    | with_reducible refine Dx.rs_ints ?_
    | with_reducible refine Dx.rs_sortI ?_
    | with_reducible refine Dx.rs_sum ?_
    | with_reducible refine Dx.rs_g2 ?_
    | with_reducible refine Dx.rs_all ?_
    | with_reducible refine Dx.rs_disp ?_
    | with_reducible refine Dx.rs_pnil ?_
    | with_reducible refine Dx.rs_pcons ?_
    | with_reducible refine Dx.rs_jnil ?_
    | with_reducible refine Dx.rs_jcons ?_
    | with_reducible refine Dx.rs_dJoin ?_
    | with_reducible refine Dx.rs_ord ?_
    | with_reducible refine Dx.rs_leS ?_
    | with_reducible refine Dx.rs_inKI ?_
    | with_reducible refine Dx.rs_inI ?_
    | with_reducible refine Dx.rs_ninI ?_
    | with_reducible refine Dx.rs_inTk ?_
    | with_reducible refine Dx.rs_getET ?_
    | with_reducible refine Dx.rs_dD0 ?_
    | with_reducible refine Dx.rs_listTk ?_
    | with_reducible refine Dx.rs_lenTk ?_
    | with_reducible refine Dx.rs_itTk ?_
    | with_reducible refine Dx.rs_end ?_
    | with_reducible refine Dx.rs_start ?_
    | with_reducible refine Dx.rs_star ?_
    | with_reducible refine Dx.rs_itemsL ?_
    | with_reducible refine Dx.rs_itemsT ?_
    | with_reducible refine Dx.rs_zipL ?_
    | with_reducible refine Dx.rs_zipS ?_
    | with_reducible refine Dx.rs_isi_non_bool ?_
    | with_reducible refine Dx.rs_isi_non_int ?_
    | with_reducible refine Dx.rs_isi_non_str ?_
    | with_reducible refine Dx.rs_isi_non_tuple ?_
    | with_reducible refine Dx.rs_isi_non_list ?_
    | with_reducible refine Dx.rs_isi_bl_bool ?_
    | with_reducible refine Dx.rs_isi_bl_int ?_
    | with_reducible refine Dx.rs_isi_bl_str ?_
    | with_reducible refine Dx.rs_isi_bl_tuple ?_
    | with_reducible refine Dx.rs_isi_bl_list ?_
    | with_reducible refine Dx.rs_isi_int_bool ?_
    | with_reducible refine Dx.rs_isi_int_int ?_
    | with_reducible refine Dx.rs_isi_int_str ?_
    | with_reducible refine Dx.rs_isi_int_tuple ?_
    | with_reducible refine Dx.rs_isi_int_list ?_
    | with_reducible refine Dx.rs_isi_str_bool ?_
    | with_reducible refine Dx.rs_isi_str_int ?_
    | with_reducible refine Dx.rs_isi_str_str ?_
    | with_reducible refine Dx.rs_isi_str_tuple ?_
    | with_reducible refine Dx.rs_isi_str_list ?_
    | with_reducible refine Dx.rs_isi_lst_bool ?_
    | with_reducible refine Dx.rs_isi_lst_int ?_
    | with_reducible refine Dx.rs_isi_lst_str ?_
    | with_reducible refine Dx.rs_isi_lst_tuple ?_
    | with_reducible refine Dx.rs_isi_lst_list ?_
    | with_reducible refine Dx.rs_isi_tup_bool ?_
    | with_reducible refine Dx.rs_isi_tup_int ?_
    | with_reducible refine Dx.rs_isi_tup_str ?_
    | with_reducible refine Dx.rs_isi_tup_tuple ?_
    | with_reducible refine Dx.rs_isi_tup_list ?_
    | with_reducible refine Dx.ss_nx ?_
    | with_reducible refine Dx.ss_bk ?_
    | with_reducible refine Dx.ss_ct ?_
    | with_reducible refine Dx.ss_seq ?_
    | with_reducible refine Dx.ss_set ?_
    | with_reducible refine Dx.ss_ret ?_
    | with_reducible refine Dx.ss_drop ?_
    | with_reducible refine Dx.ss_if ?_
    | with_reducible refine Dx.ss_par ?_
    | with_reducible refine Dx.ss_par3 ?_
    | with_reducible refine Dx.ss_aug ?_
    | ((with_reducible apply Dx.rs_var); · (rfl))
    | ((with_reducible apply Dx.rs_ixL); · (first | rfl | assumption))
    | ((with_reducible apply Dx.rs_ixF); · (first | rfl | assumption))
    | ((with_reducible apply Dx.rs_ixT); · (first | rfl | assumption))
    | ((with_reducible apply Dx.rs_fld); · (rfl))
    | ((with_reducible apply Dx.rs_isObj); · (decide))
    | ((with_reducible apply Dx.rs_mod); · (omega))
    | ((with_reducible apply Dx.rs_fdiv); · (omega))
    | ((with_reducible apply Dx.rs_addS); · ((first | exact Nat.le_of_ble_eq_true rfl | assumption | (refine Nat.le_trans (m := 100000) ?_ Dx.sz5; first | omega | (simp only [List.length_append, List.length_cons, List.length_nil, List.length_map, List.length_range, List.length_replicate, List.length_reverse, List.length_take, List.length_drop]; omega)))))
    | ((with_reducible apply Dx.rs_addT); · ((first | exact Nat.le_of_ble_eq_true rfl | assumption | (refine Nat.le_trans (m := 100000) ?_ Dx.sz5; first | omega | (simp only [List.length_append, List.length_cons, List.length_nil, List.length_map, List.length_range, List.length_replicate, List.length_reverse, List.length_take, List.length_drop]; omega)))))
    | ((with_reducible apply Dx.rs_addLL); · ((first | exact Nat.le_of_ble_eq_true rfl | assumption | (refine Nat.le_trans (m := 100000) ?_ Dx.sz5; first | omega | (simp only [List.length_append, List.length_cons, List.length_nil, List.length_map, List.length_range, List.length_replicate, List.length_reverse, List.length_take, List.length_drop]; omega)))))
    | ((with_reducible apply Dx.rs_addLO); · ((first | exact Nat.le_of_ble_eq_true rfl | assumption | (refine Nat.le_trans (m := 100000) ?_ Dx.sz5; first | omega | (simp only [List.length_append, List.length_cons, List.length_nil, List.length_map, List.length_range, List.length_replicate, List.length_reverse, List.length_take, List.length_drop]; omega)))))
    | ((with_reducible apply Dx.rs_lenS); · ((first | exact Nat.le_of_ble_eq_true rfl | assumption | (refine Nat.le_trans (m := 100000) ?_ Dx.sz5; first | omega | (simp only [List.length_append, List.length_cons, List.length_nil, List.length_map, List.length_range, List.length_replicate, List.length_reverse, List.length_take, List.length_drop]; omega)))))
    | ((with_reducible apply Dx.rs_slS); · ((first | exact Nat.le_of_ble_eq_true rfl | assumption | (refine Nat.le_trans (m := 100000) ?_ Dx.sz5; first | omega | (simp only [List.length_append, List.length_cons, List.length_nil, List.length_map, List.length_range, List.length_replicate, List.length_reverse, List.length_take, List.length_drop]; omega)))))
    | ((with_reducible apply Dx.rs_mul); · ((first | exact Or.inl (Dx.small_of (by omega) (by omega)) | exact Or.inr (Dx.small_of (by omega) (by omega)))))
    | ((with_reducible apply Dx.rs_strI); · (omega))
    | ((with_reducible apply Dx.rs_fmtI); · (omega))
    | ((with_reducible apply Dx.rs_fmtS); · ((first | exact Nat.le_of_ble_eq_true rfl | assumption | (refine Nat.le_trans (m := 100000) ?_ Dx.sz5; first | omega | (simp only [List.length_append, List.length_cons, List.length_nil, List.length_map, List.length_range, List.length_replicate, List.length_reverse, List.length_take, List.length_drop]; omega)))))
    | ((with_reducible apply Dx.rs_split); · (refine And.intro (by decide) ?_; (first | exact Nat.le_of_ble_eq_true rfl | assumption | (refine Nat.le_trans (m := 100000) ?_ Dx.sz5; first | omega | (simp only [List.length_append, List.length_cons, List.length_nil, List.length_map, List.length_range, List.length_replicate, List.length_reverse, List.length_take, List.length_drop]; omega)))))
    | ((with_reducible apply Dx.ss_app); · (rfl))
    | (with_reducible refine Dx.rs_tup ?_)
    | (with_reducible refine Dx.rs_lst ?_)
    | ((with_reducible refine And.intro (a := List.length _ ≤ PySem.sizeLine) ?_ ?_); · ((first | exact Nat.le_of_ble_eq_true rfl | assumption | (refine Nat.le_trans (m := 100000) ?_ Dx.sz5; first | omega | (simp only [List.length_append, List.length_cons, List.length_nil, List.length_map, List.length_range, List.length_replicate, List.length_reverse, List.length_take, List.length_drop]; omega)))))
    | ((with_reducible refine And.intro (a := List.length _ < PySem.sizeLine) ?_ ?_); · (first | exact Nat.le_of_ble_eq_true rfl | (refine Nat.lt_of_lt_of_le (m := 100000) ?_ Dx.sz5; first | omega | (simp only [List.length_append, List.length_cons, List.length_nil, List.length_map, List.length_range, List.length_replicate, List.length_reverse, List.length_take, List.length_drop]; omega))))
    | ((refine And.intro (fun h => absurd h ?_) (fun _ => ?_)); · (first | exact Bool.false_ne_true | (simp; done) | (simp; omega)))
    | ((refine And.intro (fun _ => ?_) (fun h => absurd h ?_)); rotate_left; · (first | exact (fun h => Bool.false_ne_true h.symm) | (simp; done) | (simp; omega)))))
section
theorem rs_pow10 {Q : D → Prop} {E : Str → List Str → List D → Prop} (q : Q (.int 1000000000000000000)) : Rs (powD (.int 10) (.int 18)) Q E := by
  unfold powD
  refine rs_guard ?_ q
  decide
theorem cell_sp (ns : List Int) (hl : ns.length ≤ 63) (k : Nat) (hk : k ≤ 1000) : Rs (F_l_cell [.fz (ns.map D.int), .int (k : Int)]) (fun d => ∃ z, d = .int z) nE := by
  refine rs_run ?_
  unfold Fb_l_cell
  array_get_dec
  refine ⟨fun _ => ?_, fun _ => ?_⟩
  · refine ss_ret (rs_op (rs_c (rs_c (rs_pow10 ⟨_, rfl⟩))))
  · array_get_dec
    refine ⟨fun h => ?_, fun h => ?_⟩
    · have h := of_decide_eq_true h
      rw [List.length_map] at h
      have hk : k < ns.length := by omega
      array_get_dec
      refine rs_ixF (d := .int ns[k]) (atI_nat (by rw [List.getElem?_map, List.getElem?_eq_getElem hk]; rfl)) ?_
      array_get_dec
      exact ⟨_, rfl⟩
    · array_get_dec
      refine rs_lc D.int (fun i => .int (i % 1000)) ns (rs_it (rs_var rfl rfl)) (Nat.le_trans (by omega) sz5) (fun i hi => ⟨_, rfl, rfl, ?_⟩) ?_
      · array_get_dec
        rfl
      · array_get_dec
        rw [show (ns.map fun i => D.int (i % 1000)) = (ns.map fun i => i % 1000).map D.int by rw [List.map_map]; rfl]
        refine rs_sum ?_
        array_get_dec
        exact ⟨_, rfl⟩
theorem row_sp (c : Int) (ls : List Int) (hl : ∀ l ∈ ls, 0 < l ∧ l < 4611686018427387904) (hn : ls.length < 10000) : Rs (F_l_row [.int c, iL ls]) (fun d => ∃ vs, d = iL vs ∧ Fit vs ls) nE := by
  refine rs_run ?_
  unfold Fb_l_row
  array_get_dec
  refine rs_pow10 ?_
  array_get_dec
  refine ss_rng ls.length (fun i r => i ≤ ls.length ∧ ∃ vs rest y z, Fit vs (ls.take i) ∧ r = [some (.int c), some (iL ls), some (iL vs), some (.int rest), y, z]) (by array_get_dec; rw [List.length_map]) (by omega) ⟨by omega, [], _, none, none, trivial, rfl⟩ ?_ ?_
  · rintro k r hk ⟨_, vs, rest, y, z, hf, rfl⟩
    have hlen := hf.len
    rw [List.length_take] at hlen
    have hg : ls[k]? = some ls[k] := List.getElem?_eq_getElem hk
    have hl := hl ls[k] (List.getElem_mem hk)
    rw [take_snoc hg]
    generalize ls[k] = l at hg hl
    have ix : ∀ {Q : D → Prop} {E : Str → List Str → List D → Prop}, Q (.int l) → Rs (ixD (iL ls) (.int (k : Int))) Q E := fun q => rs_ixL (atI_nat (by rw [List.getElem?_map, hg]; rfl)) q
    show Ss (Lp_l_row_1 [some (.int c), some (iL ls), some (iL vs), some (.int rest), some (.int (k : Int)), z]) _ _ _ _ _
    unfold Lp_l_row_1
    refine ss_if (rs_or (rs_T (rs_op (rs_var rfl (rs_c (rs_gt (rs_asB ?_)))))))
    refine rs_T (rs_op (rs_var rfl (rs_op (rs_c (rs_c (rs_pow10 (rs_eqI (rs_asB ⟨fun _ => ?_, fun _ => ?_⟩))))))))
    · array_get_dec
      refine ix ?_
      array_get_dec
      refine ix ?_
      array_get_dec
      refine ⟨by omega, vs ++ [rest % l], rest / l, some (.int (k : Int)), z, hf.snoc (Int.emod_nonneg _ (by omega)) (Int.emod_lt_of_pos _ hl.1), by simp [iL]⟩
    · array_get_dec
      refine ix ?_
      array_get_dec
      refine ⟨by omega, vs ++ [_], rest, some (.int (k : Int)), _, hf.snoc (Int.emod_nonneg _ (by omega)) (Int.emod_lt_of_pos _ hl.1), by simp [iL]; exact ⟨rfl, rfl⟩⟩
  · rintro r ⟨_, vs, rest, y, z, hf, rfl⟩
    rw [List.take_length] at hf
    array_get_dec
    exact ⟨vs, rfl, hf⟩
theorem row_of (c : Int) (ls : List Int) {Q : D → Prop} {E : Str → List Str → List D → Prop} (hl : ∀ l ∈ ls, 0 < l ∧ l < 4611686018427387904) (hn : ls.length < 10000) (q : ∀ vs, Fit vs ls → Q (iL vs)) : Rs (F_l_row [.int c, iL ls]) Q E := (row_sp c ls hl hn).imp fun d ⟨vs, e, h⟩ => by subst e; exact q vs h
theorem ix_row {vs : List Int} {ls : List Int} {k : Nat} {l : Int} {i : Int} {Q : D → Prop} {E : Str → List Str → List D → Prop} (h : Fit vs ls) (hk : ls[k]? = some l) (hi : i = (k : Int)) (q : ∀ v, vs[k]? = some v → 0 ≤ v → v < l → Q (.int v)) : Rs (ixD (iL vs) (.int i)) Q E := by
  obtain ⟨v, h1, h2, h3⟩ := h.get hk
  subst hi
  exact rs_ixL (atI_nat (by rw [List.getElem?_map, h1]; rfl)) (q v h1 h2 h3)
def wD (w : List Nat) : D := .str (Sg w)
end
section
inductive Tr where
  | tx (l : List Nat)
  | el (k m : List Nat) (ks : List Tr)
mutual
def tD : Tr → D
  | .tx l => .str (Sg l)
  | .el k m ks => .tup [wD k, wD m, .tup (tDs ks)]
def tDs : List Tr → List D
  | [] => []
  | t :: ts => tD t :: tDs ts
end
theorem tD_tx (l : List Nat) : tD (.tx l) = .str (Sg l) := by rw [tD]
theorem tDs_map : ∀ ks : List Tr, tDs ks = ks.map tD
  | [] => by simp [tDs]
  | t :: ts => by rw [tDs, tDs_map ts]; rfl
theorem tD_el (k m : List Nat) (ks : List Tr) : tD (.el k m ks) = .tup [wD k, wD m, .tup (ks.map tD)] := by rw [tD, tDs_map]
mutual
def sz : Tr → Nat
  | .tx _ => 1
  | .el _ _ ks => 1 + szs ks
def szs : List Tr → Nat
  | [] => 0
  | t :: ts => sz t + szs ts
end
theorem sz_pos : ∀ t : Tr, 1 ≤ sz t
  | .tx _ => by rw [sz]; exact Nat.le_refl _
  | .el _ _ ks => by rw [sz]; omega
theorem len_szs : ∀ ks : List Tr, ks.length ≤ szs ks
  | [] => by simp [szs]
  | t :: ts => by have := len_szs ts; have := sz_pos t; rw [szs, List.length_cons]; omega
def isTx : Tr → Bool
  | .tx _ => true
  | .el _ _ _ => false
theorem sz_el (k m : List Nat) (ks : List Tr) : sz (.el k m ks) = 1 + szs ks := by rw [sz]
/-- no two texts side by side -/
def NoAdj : List Tr → Prop
  | a :: b :: l => ¬ (isTx a = true ∧ isTx b = true) ∧ NoAdj (b :: l)
  | _ => True
theorem NoAdj.snoc : ∀ {ks : List Tr} {u : Tr}, NoAdj ks → (∀ ks' v, ks = ks' ++ [v] → isTx v = true → isTx u = false) → NoAdj (ks ++ [u])
  | [], _, _, _ => trivial
  | [a], u, _, h => ⟨fun z => (by have := h [] a rfl z.1; rw [this] at z; exact Bool.noConfusion z.2), trivial⟩
  | a :: b :: l, u, n, h => ⟨n.1, NoAdj.snoc (ks := b :: l) n.2 fun ks' v e => h (a :: ks') v (by rw [e]; rfl)⟩
/-- a tree of such kinds, marks and texts, no higher than n -/
inductive Wf (PK PM PT : List Nat → Prop) : Nat → Tr → Prop
  | tx {n : Nat} {l : List Nat} : PT l → Wf PK PM PT n (.tx l)
  | leaf {n : Nat} {k m : List Nat} : PK k → PM m → Wf PK PM PT n (.el k m [])
  | el {n : Nat} {k m : List Nat} {ks : List Tr} : PK k → PM m → NoAdj ks → (∀ u ∈ ks, Wf PK PM PT n u) → Wf PK PM PT (n + 1) (.el k m ks)
theorem Wf.up {PK PM PT : List Nat → Prop} {n : Nat} {t : Tr} (h : Wf PK PM PT n t) : ∀ {m : Nat}, n ≤ m → Wf PK PM PT m t := by
  induction h with
  | tx h => exact fun _ => .tx h
  | leaf h1 h2 => exact fun _ => .leaf h1 h2
  | el h1 h2 h3 _ ih => exact fun {m} hm => match m, hm with
    | m + 1, hm => .el h1 h2 h3 fun u hu => ih u hu (Nat.le_of_succ_le_succ hm)
end
section
theorem fit_drop2 : ∀ (n : Nat) {vs ls : List Int}, Fit vs ls → Fit (vs.drop n) (ls.drop n)
  | 0, vs, ls, h => h
  | n + 1, vs, [], h => by rw [h.nil]; trivial
  | n + 1, vs, l :: ls, h => by
    obtain ⟨v, us, rfl, _, _, h⟩ := h.cons
    exact fit_drop2 n h
theorem fit_take2 : ∀ (n : Nat) {vs ls : List Int}, Fit vs ls → Fit (vs.take n) (ls.take n)
  | 0, vs, ls, h => trivial
  | n + 1, vs, [], h => by rw [h.nil]; trivial
  | n + 1, vs, l :: ls, h => by
    obtain ⟨v, us, rfl, h1, h2, h⟩ := h.cons
    exact ⟨h1, h2, fit_take2 n h⟩
theorem fit_mem : ∀ {vs ls : List Int} {b : Int}, Fit vs ls → (∀ l ∈ ls, l = b) → ∀ v ∈ vs, 0 ≤ v ∧ v < b
  | vs, [], b, h, _, v, hv => by rw [h.nil] at hv; cases hv
  | vs, l :: ls, b, h, hb, v, hv => by
    obtain ⟨v0, us, rfl, h1, h2, h⟩ := h.cons
    rcases List.mem_cons.mp hv with rfl | hv
    · have := hb l (List.mem_cons_self ..); omega
    · exact fit_mem h (fun l hl => hb l (List.mem_cons_of_mem _ hl)) v hv
theorem word_sp {r : Rho} {its : Rho → Res (List D)} {a m : Nat} {A : List Nat} {ps : List Int} {Q : D → Prop} {E : Str → List Str → List D → Prop} (hA : A.length ≤ 1000) (hps : ∀ p ∈ ps, 0 ≤ p ∧ p < A.length) (hl : ps.length ≤ 1000) (hi : Rs (its r) (fun ds => ds = ps.map D.int) nE)
    (ha : r[a]? = some (some (wD A))) (hm : m < r.length) (hne : a ≠ m) (q : Q (wD (ps.map fun p => A.getD p.toNat 0))) : Rs (dStr joinD (dC (.str (Sg []))) (dLc its (tgN m) dYes (dOp ixD (dVar a) (dVar m)) [m]) r) Q E := by
  refine rs_str (rs_c (rs_asS ?_))
  refine rs_lc D.int (fun p => .str (Sg [A.getD p.toNat 0])) ps (hi.impE (fun _ z => z) fun _ _ _ z => z.elim) (Nat.le_trans (show _ ≤ 100000 by omega) sz5) (fun p hp => ⟨r.set m (some (.int p)), ?_, rfl, ?_⟩) ?_
  · show Res.ok ((r.set m none).set m (some (.int p))) = _
    rw [List.set_set]
  · have hp := hps p hp
    have hlt : p.toNat < A.length := by omega
    refine rs_op (rs_var (d := wD A) (by rw [List.getElem?_set_ne (Ne.symm hne)]; exact ha) (rs_var (d := .int p) (by rw [List.getElem?_set_self hm]) ?_))
    refine rs_ixS (n := A.getD p.toNat 0) ⟨Nat.le_trans (show _ ≤ 100000 by omega) sz5, ?_⟩ rfl
    exact at_pos hp.1 (by rw [List.getD_eq_getElem?_getD, List.getElem?_eq_getElem hlt]; rfl)
  · have e : (ps.map fun p => D.str (Sg [A.getD p.toNat 0])) = (ps.map fun p => A.getD p.toNat 0).map fun n => .str (Sg [n]) := by rw [List.map_map]; rfl
    rw [e]
    exact rs_joinC (by rw [List.length_map]; omega) q
theorem ixN_nat {n k : Nat} (h : k < n) : ixN n (k : Int) = some k := by
  unfold ixN
  rw [if_pos (by omega), if_pos (by omega), Int.toNat_natCast]
/-- a name -/
def Nm (w : List Nat) : Prop := 0 < w.length ∧ w.length ≤ 8 ∧ ∀ c ∈ w, 97 ≤ c ∧ c ≤ 122
theorem pick_mem {A : List Nat} {ps : List Int} (hps : ∀ p ∈ ps, 0 ≤ p ∧ p < A.length) : ∀ c ∈ ps.map fun p => A.getD p.toNat 0, c ∈ A := fun c hc => by
  obtain ⟨p, hp, rfl⟩ := List.mem_map.mp hc
  have := hps p hp
  have hlt : p.toNat < A.length := by omega
  rw [List.getD_eq_getElem?_getD, List.getElem?_eq_getElem hlt]
  exact List.getElem_mem hlt
theorem mem_set_of {P : List Nat → Prop} {ws : List (List Nat)} {k : Nat} {w : List Nat} (h : ∀ w ∈ ws, P w) (hw : P w) : ∀ x ∈ ws.set k w, P x := fun x hx => by
  rcases List.mem_or_eq_of_mem_set hx with h1 | h1
  · exact h x h1
  · rw [h1]; exact hw
def LN : List Int := [3, 8] ++ (List.replicate 9 [8, 26, 26, 26, 26, 26, 26, 26, 26]).flatten
theorem names_sp (c : Int) : Rs (F_l_names [.int c, .int 9]) (fun d => ∃ ws : List (List Nat), d = .lst (ws.map wD) ∧ ws.length = 9 ∧ ∀ w ∈ ws, Nm w) nE := by
  refine rs_run ?_
  unfold Fb_l_names
  show Ss (seqF _ _ [some (.int c), some (.int 9), none, none, none, none, none, none, none, none, none]) _ _ _ _ _
  refine ss_seq (ss_cut (fun r => ∃ A : List Nat, A.length = 26 ∧ (∀ c ∈ A, 97 ≤ c ∧ c ≤ 122) ∧ r = [some (.int c), some (.int 9), some (wD A), none, none, none, none, none, none, none, none]) (ss_set (rs_c ⟨_, rfl, by decide, rfl⟩)) ?_)
  rintro _ ⟨A, hA, hAl, rfl⟩
  refine ss_seq (ss_set (rs_call (rs_cons (rs_var rfl (rs_cons (rs_op (rs_lst (rs_cons (rs_c (rs_cons (rs_c (rs_nil ⟨Nat.le_of_ble_eq_true rfl, ?_⟩))))))))))))
  refine rs_op (rs_lst (rs_cons (rs_c (rs_cons (rs_c (rs_cons (rs_c (rs_cons (rs_c (rs_cons (rs_c (rs_cons (rs_c (rs_cons (rs_c (rs_cons (rs_c (rs_cons (rs_c (rs_nil ⟨Nat.le_of_ble_eq_true rfl, rs_var rfl ?_⟩))))))))))))))))))))
  refine rs_mulL ⟨by decide, by decide, Nat.le_of_ble_eq_true rfl⟩ ?_
  refine rs_addLL (Nat.le_of_ble_eq_true rfl) (rs_nil ?_)
  show Rs (F_l_row [.int c, iL LN]) _ _
  refine row_of c LN (by decide) (by decide) fun vs hf => ?_
  have hvl : vs.length = 83 := hf.len
  refine ss_seq (ss_set (rs_lst (rs_nil ⟨Nat.zero_le _, ?_⟩)))
  refine ss_seq (ss_rng 9 (fun k r => ∃ (ws : List (List Nat)) (x5 x6 x7 : Option D), r = [some (.int c), some (.int 9), some (wD A), some (iL vs), some (.lst (ws.map wD)), x5, x6, x7, none, none, none] ∧ ws.length = k ∧ ∀ w ∈ ws, Nm w) (rs_var rfl rfl) (by omega) ⟨[], none, none, none, rfl, rfl, fun w hw => by cases hw⟩ ?_ ?_)
  · rintro k r hk ⟨ws, x5, x6, x7, rfl, hws, hw⟩
    show Ss (Lp_l_names_1 [some (.int c), some (.int 9), some (wD A), some (iL vs), some (.lst (ws.map wD)), some (.int (k : Int)), x6, x7, none, none, none]) _ _ _ _ _
    unfold Lp_l_names_1
    have hpick : ∀ p ∈ (vs.take (9 * k + 11)).drop (9 * k + 3), 0 ≤ p ∧ p < (A.length : Int) := by
      rw [hA]
      refine fit_mem (ls := (LN.take (9 * k + 11)).drop (9 * k + 3)) (fit_drop2 _ (fit_take2 _ hf)) ?_
      have : ∀ k < 9, ∀ l ∈ (LN.take (9 * k + 11)).drop (9 * k + 3), l = ((26 : Nat) : Int) := by decide
      exact this k hk
    have hpl : ((vs.take (9 * k + 11)).drop (9 * k + 3)).length = 8 := by rw [List.length_drop, List.length_take]; omega
    refine ss_seq (ss_set (word_sp (A := A) (ps := (vs.take (9 * k + 11)).drop (9 * k + 3)) (by omega) hpick (by omega) ?_ rfl (by show 7 < 11; omega) (by decide) ?_))
    · refine rs_it (rs_sl (rs_var rfl (rs_part (rs_op (rs_op (rs_c (rs_var rfl (rs_mul (Or.inl (small_of (by omega) (by omega))) (rs_c (rs_add (rs_asI ?_)))))))))))
      refine rs_part (rs_op (rs_op (rs_c (rs_var rfl (rs_mul (Or.inl (small_of (by omega) (by omega))) (rs_c (rs_add (rs_asI ?_))))))))
      rw [show (9 * (k : Int) + 3) = ((9 * k + 3 : Nat) : Int) by omega, show (9 * (k : Int) + 11) = ((9 * k + 11 : Nat) : Int) by omega]
      refine rs_slL ?_
      rw [cut_mid, ← List.map_take, ← List.map_drop]
      rfl
    · refine ss_app rfl (rs_sl (rs_var rfl (rs_noP (rs_part (rs_op (rs_op (rs_var rfl (rs_op (rs_op (rs_c (rs_var rfl (rs_mul (Or.inl (small_of (by omega) (by omega))) (rs_c (rs_add ?_))))))))))))))
      refine ix_row (k := 9 * k + 2) (l := 8) hf (by have : ∀ k < 9, LN[9 * k + 2]? = some 8 := by decide
                                                     exact this k hk) (by omega) fun v _ h0 h1 => ?_
      refine rs_c (rs_add (rs_asI ?_))
      refine rs_slS (Nat.le_trans (show _ ≤ 100000 by rw [List.length_map]; omega) sz5) ⟨Nat.lt_of_lt_of_le (show (ws.map wD).length < 100000 by rw [List.length_map]; omega) sz5, ?_⟩
      refine ⟨ws ++ [(((vs.take (9 * k + 11)).drop (9 * k + 3)).map fun p => A.getD p.toNat 0).take (v.toNat + 1)], some (.int (k : Int)), some (wD (((vs.take (9 * k + 11)).drop (9 * k + 3)).map fun p => A.getD p.toNat 0)), x7, ?_, by rw [List.length_append, hws]; rfl, fun w hw' => ?_⟩
      · rw [show v + 1 = ((v.toNat + 1 : Nat) : Int) by omega, cut_take, List.map_append]
        rfl
      · rcases List.mem_append.mp hw' with hw' | hw'
        · exact hw w hw'
        · rw [List.mem_singleton.mp hw']
          refine ⟨by rw [List.length_take, List.length_map, hpl]; omega, by rw [List.length_take, List.length_map, hpl]; omega, fun c hc => hAl c (pick_mem hpick c (List.mem_of_mem_take hc))⟩
  · rintro r ⟨ws, x5, x6, x7, rfl, hws, hw⟩
    obtain ⟨w0, ws', rfl⟩ : ∃ w0 ws', ws = w0 :: ws' := by
      cases ws with
      | nil => cases hws
      | cons w ws => exact ⟨_, _, rfl⟩
    obtain ⟨hw1, hw2, hw3⟩ := hw w0 (List.mem_cons_self ..)
    refine ss_seq (ss_set (rs_op (rs_var rfl (rs_c (rs_ixL (d := wD w0) (atI_nat (j := 0) rfl) ?_)))))
    refine ss_seq (ss_set (rs_op (rs_call (rs_cons (rs_op (rs_var rfl (rs_c ?_)))))))
    refine ix_row (k := 1) (l := 8) hf (by decide) rfl fun v1 _ h10 h11 => ?_
    refine rs_nil (rs_int (rs_call (rs_cons (rs_var rfl (rs_nil (rs_lenS (Nat.le_trans (show _ ≤ 100000 by omega) sz5) (rs_mod (by omega) ?_)))))))
    have hat0 : 0 ≤ v1 % (w0.length : Int) := Int.emod_nonneg _ (by omega)
    have hat1 : v1 % (w0.length : Int) < w0.length := Int.emod_lt_of_pos _ (by omega)
    generalize v1 % (w0.length : Int) = at0 at hat0 hat1 ⊢
    obtain ⟨n0, rfl⟩ := Int.eq_ofNat_of_zero_le hat0
    have hn0 : n0 < w0.length := by omega
    refine ss_seq (ss_rng 9 (fun k r => ∃ (ws : List (List Nat)) (x5 x6 x7 x10 : Option D), r = [some (.int c), some (.int 9), some (wD A), some (iL vs), some (.lst (ws.map wD)), x5, x6, x7, some (wD w0), some (.int (n0 : Int)), x10] ∧ ws.length = 9 ∧ ∀ w ∈ ws, Nm w) (rs_var rfl rfl) (by omega) ⟨w0 :: ws', _, _, _, none, rfl, hws, hw⟩ ?_ ?_)
    · rintro k r hk ⟨ws, x5, x6, x7, x10, rfl, hws, hwn⟩
      show Ss (Lp_l_names_2 [some (.int c), some (.int 9), some (wD A), some (iL vs), some (.lst (ws.map wD)), some (.int (k : Int)), x6, x7, some (wD w0), some (.int (n0 : Int)), x10]) _ _ _ _ _
      unfold Lp_l_names_2
      have hix : ∀ {α : Type} (l : List α), l.length = 9 → ixN l.length (k : Int) = some k := fun l hl => by rw [hl]; exact ixN_nat hk
      refine ss_seq (ss_cut (fun r => ∃ (ws : List (List Nat)) (x10 : Option D), r = [some (.int c), some (.int 9), some (wD A), some (iL vs), some (.lst (ws.map wD)), some (.int (k : Int)), x6, x7, some (wD w0), some (.int (n0 : Int)), x10] ∧ ws.length = 9 ∧ ∀ w ∈ ws, Nm w) ?_ ?_)
      · refine ss_if (rs_T (rs_op (rs_op (rs_var rfl (rs_c ?_)))))
        refine ix_row (k := 0) (l := 3) hf (by decide) rfl fun v0 _ h00 h01 => ?_
        refine rs_c (rs_eqI (rs_asB ⟨fun _ => ?_, fun _ => ss_nx ⟨ws, x10, rfl, hws, hwn⟩⟩))
        refine ss_seq (ss_set (rs_op (rs_var rfl (rs_op (rs_call (rs_cons (rs_op (rs_op (rs_var rfl (rs_c ?_))))))))))
        refine ix_row (k := 3) (l := 26) hf (by decide) rfl fun v3 _ h30 h31 => ?_
        refine rs_op (rs_c (rs_var rfl (rs_mul (Or.inl (small_of (by omega) (by omega))) (rs_add (rs_nil (rs_int (rs_c (rs_mod (by omega) ?_))))))))
        have hm0 : 0 ≤ (v3 + 5 * (k : Int)) % 26 := Int.emod_nonneg _ (by omega)
        have hm1 : (v3 + 5 * (k : Int)) % 26 < 26 := Int.emod_lt_of_pos _ (by omega)
        generalize (v3 + 5 * (k : Int)) % 26 = z at hm0 hm1 ⊢
        have hz : z.toNat < A.length := by omega
        refine rs_ixS (n := A[z.toNat]) ⟨Nat.le_trans (show _ ≤ 100000 by omega) sz5, ?_⟩ ?_
        · exact at_pos hm0 (List.getElem?_eq_getElem hz)
        refine ss_sto (n := k) (k := (k : Int)) (ds := ws.map wD) (rs_op (rs_op (rs_sl (rs_var rfl (rs_noP (rs_part (rs_var rfl (rs_asI ?_))))))))
        refine rs_slS (Nat.le_trans (show _ ≤ 100000 by omega) sz5) (rs_var rfl ?_)
        rw [cut_take]
        have c1 : (w0.take n0).length ≤ w0.length := by rw [List.length_take]; omega
        refine rs_addS (Nat.le_trans (show _ ≤ 100000 by rw [List.length_singleton]; omega) sz5) ?_
        refine rs_sl (rs_var rfl (rs_part (rs_op (rs_var rfl (rs_c (rs_add (rs_asI (rs_noP ?_))))))))
        refine rs_slS (Nat.le_trans (show _ ≤ 100000 by omega) sz5) ?_
        rw [show ((n0 : Int) + 1) = ((n0 + 1 : Nat) : Int) from by omega, cut_drop]
        have c2 : (w0.drop (n0 + 1)).length ≤ w0.length := by rw [List.length_drop]; omega
        have hnm : Nm (w0.take n0 ++ [A[z.toNat]] ++ w0.drop (n0 + 1)) := by
          refine ⟨by simp; omega, by simp; omega, fun c hc => ?_⟩
          rcases List.mem_append.mp hc with hc | hc
          · rcases List.mem_append.mp hc with hc | hc
            · exact hw3 c (List.mem_of_mem_take hc)
            · rw [List.mem_singleton.mp hc]; exact hAl _ (List.getElem_mem hz)
          · exact hw3 c (List.mem_of_mem_drop hc)
        refine rs_addS (Nat.le_trans (show _ ≤ 100000 by rw [List.length_append, List.length_singleton]; omega) sz5) ?_
        refine ⟨rfl, rs_var rfl ⟨rfl, hix _ (by rw [List.length_map]; exact hws), ws.set k (w0.take n0 ++ [A[z.toNat]] ++ w0.drop (n0 + 1)), some (wD [A[z.toNat]]), ?_, by rw [List.length_set]; exact hws, mem_set_of hwn hnm⟩⟩
        rw [List.map_set]
        rfl
      rintro _ ⟨ws, x10, rfl, hws, hwn⟩
      refine ss_if (rs_T (rs_op (rs_op (rs_var rfl (rs_c ?_)))))
      refine ix_row (k := 0) (l := 3) hf (by decide) rfl fun v0 _ h00 h01 => ?_
      refine rs_c (rs_eqI (rs_asB ⟨fun _ => ?_, fun _ => ss_nx ⟨ws, _, _, _, x10, rfl, hws, hwn⟩⟩))
      refine ss_sto (n := k) (k := (k : Int)) (ds := ws.map wD) (rs_sl (rs_op (rs_var rfl (rs_c ?_))))
      refine rs_mulS ⟨by decide, by decide, Nat.le_trans (show w0.length * 8 ≤ 100000 by omega) sz5⟩ ?_
      have hfl : (List.replicate (8 : Int).toNat w0).flatten.length = 8 * w0.length := by
        rw [show (8 : Int).toNat = 8 from rfl, List.length_flatten, List.map_replicate, List.sum_replicate_nat]
      have hfm : ∀ c ∈ (List.replicate (8 : Int).toNat w0).flatten, 97 ≤ c ∧ c ≤ 122 := fun c hc => by
        obtain ⟨l, hl, h⟩ := List.mem_flatten.mp hc
        rw [(List.mem_replicate.mp hl).2] at h
        exact hw3 c h
      generalize (List.replicate (8 : Int).toNat w0).flatten = ww at hfl hfm ⊢
      refine rs_noP (rs_part (rs_op (rs_c (rs_op (rs_call (rs_cons (rs_var rfl (rs_nil (rs_int (rs_c (rs_mod (by omega) (rs_add (rs_asI ?_)))))))))))))
      refine rs_slS (Nat.le_trans (show _ ≤ 100000 by omega) sz5) ?_
      have hm0 : 0 ≤ (k : Int) % 8 := Int.emod_nonneg _ (by omega)
      have hm1 : (k : Int) % 8 < 8 := Int.emod_lt_of_pos _ (by omega)
      rw [show (1 + (k : Int) % 8) = ((1 + ((k : Int) % 8).toNat : Nat) : Int) by omega, cut_take]
      have hnm : Nm (ww.take (1 + ((k : Int) % 8).toNat)) := ⟨by rw [List.length_take]; omega, by rw [List.length_take]; omega, fun c hc => hfm c (List.mem_of_mem_take hc)⟩
      generalize ww.take (1 + ((k : Int) % 8).toNat) = p1 at hnm ⊢
      refine ⟨rfl, rs_var rfl ⟨rfl, hix _ (by rw [List.length_map]; exact hws), ws.set k p1, some (.int (k : Int)), x6, x7, x10, ?_, by rw [List.length_set]; exact hws, mem_set_of hwn hnm⟩⟩
      rw [List.map_set]
      rfl
    · rintro r ⟨ws, x5, x6, x7, x10, rfl, hws, hwn⟩
      exact ss_ret (rs_var rfl ⟨ws, rfl, hws, hwn⟩)
end
section
structure Fr where
  f : Nat
  g : Nat
  k : List Nat
  m : List Nat
  ks : List Tr
structure Enc (M : List (List D)) (Fs : List Fr) : Prop where
  root : M[0]? = some (Fs.map fun F => D.own F.f)
  fr : ∀ F ∈ Fs, M[F.f]? = some [wD F.k, wD F.m, .own F.g] ∧ M[F.g]? = some (F.ks.map tD) ∧ 0 < F.f ∧ F.f < F.g
  pw : Fs.Pairwise fun a b => a.g < b.f
def Fr.put (F : Fr) (u : Tr) : Fr := { F with ks := F.ks ++ [u] }
theorem Enc.last {M : List (List D)} {Fs : List Fr} {F : Fr} (e : Enc M (Fs ++ [F])) : ∀ F' ∈ Fs, F'.g < F.f := fun F' h => (List.pairwise_append.mp e.pw).2.2 F' h F (List.mem_singleton.mpr rfl)
theorem Enc.app {M : List (List D)} {Fs : List Fr} {F : Fr} (e : Enc M (Fs ++ [F])) (u : Tr) : Enc (M.set F.g (F.ks.map tD ++ [tD u])) (Fs ++ [F.put u]) := by
  obtain ⟨hf, hg, h0, h1⟩ := e.fr F (by simp)
  have hgl := (List.getElem?_eq_some_iff.mp hg).1
  refine ⟨?_, fun F' hF' => ?_, ?_⟩
  · rw [List.getElem?_set_ne (by omega), e.root, List.map_append, List.map_append]
    rfl
  · rcases List.mem_append.mp hF' with h | h
    · have hlt := e.last F' h
      obtain ⟨a, b, c, d⟩ := e.fr F' (by simp [h])
      exact ⟨by rw [List.getElem?_set_ne (by omega)]; exact a, by rw [List.getElem?_set_ne (by omega)]; exact b, c, d⟩
    · rw [List.mem_singleton.mp h]
      refine ⟨?_, ?_, h0, h1⟩
      · show (M.set F.g _)[F.f]? = _
        rw [List.getElem?_set_ne (by omega)]; exact hf
      · show (M.set F.g _)[F.g]? = some ((F.ks ++ [u]).map tD)
        rw [List.getElem?_set_self hgl, List.map_append]
        rfl
  · have := e.pw
    rw [List.pairwise_append] at this ⊢
    refine ⟨this.1, List.pairwise_singleton _ _, fun a ha b hb => ?_⟩
    rw [List.mem_singleton.mp hb]
    exact e.last a ha
theorem Enc.pop {M : List (List D)} {Fs : List Fr} {F : Fr} (e : Enc M (Fs ++ [F])) : Enc (M.set 0 (Fs.map fun F => D.own F.f)) Fs := by
  have h0 := (List.getElem?_eq_some_iff.mp e.root).1
  refine ⟨by rw [List.getElem?_set_self h0], fun F' hF' => ?_, (List.pairwise_append.mp e.pw).1⟩
  obtain ⟨a, b, c, d⟩ := e.fr F' (by simp [hF'])
  exact ⟨by rw [List.getElem?_set_ne (by omega)]; exact a, by rw [List.getElem?_set_ne (by omega)]; exact b, c, d⟩
theorem Enc.push {M : List (List D)} {Fs : List Fr} (e : Enc M Fs) (k m : List Nat) : Enc ((M ++ [[wD k, wD m, .own (M.length + 1)], []]).set 0 ((Fs.map fun F => D.own F.f) ++ [.own M.length])) (Fs ++ [⟨M.length, M.length + 1, k, m, []⟩]) := by
  have h0 := (List.getElem?_eq_some_iff.mp e.root).1
  refine ⟨?_, fun F' hF' => ?_, ?_⟩
  · rw [List.getElem?_set_self (by simp), List.map_append]
    rfl
  · rcases List.mem_append.mp hF' with h | h
    · obtain ⟨a, b, c, d⟩ := e.fr F' h
      have a1 := (List.getElem?_eq_some_iff.mp a).1
      have b1 := (List.getElem?_eq_some_iff.mp b).1
      exact ⟨by rw [List.getElem?_set_ne (by omega), List.getElem?_append_left a1]; exact a, by rw [List.getElem?_set_ne (by omega), List.getElem?_append_left b1]; exact b, c, d⟩
    · rw [List.mem_singleton.mp h]
      refine ⟨?_, ?_, h0, by show M.length < M.length + 1; omega⟩
      · show (List.set _ 0 _)[M.length]? = _
        rw [List.getElem?_set_ne (by omega), List.getElem?_append_right (Nat.le_refl _), Nat.sub_self]
        rfl
      · show (List.set _ 0 _)[M.length + 1]? = some []
        rw [List.getElem?_set_ne (by omega), List.getElem?_append_right (by omega), show M.length + 1 - M.length = 1 by omega]
        rfl
  · rw [List.pairwise_append]
    refine ⟨e.pw, List.pairwise_singleton _ _, fun a ha b hb => ?_⟩
    rw [List.mem_singleton.mp hb]
    exact (List.getElem?_eq_some_iff.mp (e.fr a ha).2.1).1
end
section
section
variable (PK PM PT : List Nat → Prop)
def FrOk (n : Nat) (F : Fr) : Prop := PK F.k ∧ PM F.m ∧ NoAdj F.ks ∧ ∀ u ∈ F.ks, Wf PK PM PT n u
end
section
variable {PK PM PT : List Nat → Prop}
theorem FrOk.put {n : Nat} {F : Fr} {u : Tr} (h : FrOk PK PM PT n F) (hu : Wf PK PM PT n u) (ha : ∀ ks v, F.ks = ks ++ [v] → isTx v = true → isTx u = false) : FrOk PK PM PT n (F.put u) := by
  obtain ⟨h1, h2, h3, h4⟩ := h
  refine ⟨h1, h2, h3.snoc ha, fun v hv => ?_⟩
  rcases List.mem_append.mp hv with hv | hv
  · exact h4 v hv
  · rw [List.mem_singleton.mp hv]; exact hu
end
theorem snoc_of {α : Type} {l : List α} (h : l ≠ []) : ∃ a b, l = a ++ [b] := ⟨l.dropLast, l.getLast h, (List.dropLast_concat_getLast h).symm⟩
end
section
theorem nodup_le {α : Type} [DecidableEq α] : ∀ {l K : List α}, l.Nodup → (∀ x ∈ l, x ∈ K) → l.length ≤ K.length
  | [], K, _, _ => Nat.zero_le _
  | x :: l, K, h, hs => by
    have hx : x ∈ K := hs x (List.mem_cons_self ..)
    obtain ⟨h1, h2⟩ := List.nodup_cons.mp h
    have := nodup_le (l := l) (K := K.erase x) h2 fun y hy => (List.mem_erase_of_ne (fun e => h1 (by rw [← e]; exact hy))).mpr (hs y (List.mem_cons_of_mem _ hy))
    rw [List.length_erase_of_mem hx] at this
    have := List.length_pos_of_mem hx
    rw [List.length_cons]; omega
/-- one letter tried -/
def kst (K : List (List Nat)) (w : List Nat) (c : Nat) : List Nat := if w ∈ K then w.take 7 ++ [c] else w
theorem kst_in {K : List (List Nat)} {w : List Nat} {c : Nat} (h : w ∈ K) : kst K w c = w.take 7 ++ [c] := if_pos h
theorem kst_not {K : List (List Nat)} {w : List Nat} {c : Nat} (h : w ∉ K) : kst K w c = w := if_neg h
theorem kst_stay {K : List (List Nat)} {w : List Nat} (h : w ∉ K) : ∀ ls : List Nat, ls.foldl (kst K) w = w
  | [] => rfl
  | c :: ls => by rw [List.foldl_cons, kst_not h]; exact kst_stay h ls
theorem kst_was {K : List (List Nat)} {w : List Nat} {ls : List Nat} (h : ls.foldl (kst K) w ∈ K) : w ∈ K := by
  apply Classical.byContradiction
  intro q
  rw [kst_stay q] at h
  exact q h
theorem kst_len {K : List (List Nat)} : ∀ {ls : List Nat} {w : List Nat} {n : Nat}, n ≤ w.length → ls.foldl (kst K) w ∈ K → min (n + ls.length) 8 ≤ (ls.foldl (kst K) w).length ∨ ls = []
  | [], _, _, _, _ => .inr rfl
  | c :: ls, w, n, hn, h => by
    left
    have hw := kst_was h
    rw [List.foldl_cons, kst_in hw] at h ⊢
    have hl : min (n + 1) 8 ≤ (w.take 7 ++ [c]).length := by simp; omega
    rcases kst_len hl h with q | q
    · rw [List.length_cons]; omega
    · subst q; simp only [List.foldl_nil, List.length_cons, List.length_nil] at *; omega
theorem kst_all {K : List (List Nat)} : ∀ {ls : List Nat} {w : List Nat}, 7 ≤ w.length → ls.foldl (kst K) w ∈ K → ∀ c ∈ ls, w.take 7 ++ [c] ∈ K
  | [], _, _, _, _, hc => by cases hc
  | c :: ls, w, hn, h, c', hc => by
    have hw := kst_was h
    rw [List.foldl_cons, kst_in hw] at h
    rcases List.mem_cons.mp hc with rfl | hc
    · exact kst_was h
    · have := kst_all (w := w.take 7 ++ [c]) (by simp; omega) h c' hc
      rw [List.take_append_of_le_length (by rw [List.length_take]; omega), List.take_take] at this
      exact this
theorem kst_free {K : List (List Nat)} {l1 l2 : List Nat} {w : List Nat} (h1 : 7 ≤ l1.length) (hd : l2.Nodup) (hl : K.length < l2.length) : (l1 ++ l2).foldl (kst K) w ∉ K := by
  intro h
  rw [List.foldl_append] at h
  have hu := kst_was h
  have h7 : 7 ≤ (l1.foldl (kst K) w).length := by
    rcases kst_len (Nat.zero_le _) hu with q | q
    · omega
    · subst q; cases h1
  have hall := kst_all h7 h
  generalize (l1.foldl (kst K) w).take 7 = pre at hall
  have hn : (l2.map fun c => pre ++ [c]).Nodup := by
    refine List.Pairwise.map _ (fun a b hab e => hab ?_) hd
    have := List.append_cancel_left e
    exact (List.cons.inj this).1
  have := nodup_le hn fun x hx => by
    obtain ⟨c, hc, rfl⟩ := List.mem_map.mp hx
    exact hall c hc
  rw [List.length_map] at this
  omega
end
section
theorem flatDs_w (ws : List (List Nat)) : flatDs (ws.map wD) = some (ws.map fun w => V.str (Sg w)) := by
  induction ws with
  | nil => rfl
  | cons w ws ih => rw [List.map_cons, flatDs, ih]; rfl
theorem inV_w (a : List Nat) (ws : List (List Nat)) : inV (V.str (Sg a)) (ws.map fun w => V.str (Sg w)) = decide (a ∈ ws) := by
  have s : ∀ x y : List Nat, eqV (V.str (Sg x)) (V.str (Sg y)) = decide (x = y) := fun x y => by
    by_cases h : x = y
    · subst h; simp [eqV]
    · simp [eqV, h]
  induction ws with
  | nil => rfl
  | cons w ws ih =>
    unfold inV at ih ⊢
    rw [List.map_cons, List.any_cons, ih]
    rw [show ∀ x y : List Nat, decide (x ∈ y :: ws) = (decide (x = y) || decide (x ∈ ws)) from fun x y => by by_cases h1 : x = y <;> by_cases h2 : x ∈ ws <;> simp [h1, h2]]
    congr 1
    rw [s]
    by_cases h : a = w
    · subst h; rfl
    · rw [decide_eq_false h, decide_eq_false (Ne.symm h)]
theorem rs_inWT {a : List Nat} (ws : List (List Nat)) {Q : D → Prop} {E : Str → List Str → List D → Prop} (q : Q (.bl (decide (a ∈ ws)))) : Rs (inD (wD a) (.tup (ws.map wD))) Q E := by
  show Rs ((inTup (wD a) (ws.map wD)).bind _) Q E
  unfold inTup inFlat
  rw [flatDs_w]
  show Q (.bl (inV (V.str (Sg a)) (ws.map fun w => V.str (Sg w))))
  rw [inV_w]
  exact q
theorem rs_inWL {a : List Nat} (ws : List (List Nat)) {Q : D → Prop} {E : Str → List Str → List D → Prop} (q : Q (.bl (decide (a ∈ ws)))) : Rs (inD (wD a) (.lst (ws.map wD))) Q E := by
  show Rs ((inLst (wD a) (ws.map wD)).bind _) Q E
  unfold inLst inFlat
  rw [flatDs_w]
  show Q (.bl (inV (V.str (Sg a)) (ws.map fun w => V.str (Sg w))))
  rw [inV_w]
  exact q
def ABC : List Nat := [97, 98, 99, 100, 101, 102, 103, 104, 105, 106, 107, 108, 109, 110, 111, 112, 113, 114, 115, 116, 117, 118, 119, 120, 121, 122]
theorem abc_in : ∀ c ∈ ABC, 97 ≤ c ∧ c ≤ 122 := by decide
theorem kst_nm {K : List (List Nat)} {w : List Nat} {c : Nat} (h : Nm w) (hc : 97 ≤ c ∧ c ≤ 122) : Nm (kst K w c) := by
  unfold kst
  split
  · obtain ⟨_, _, h3⟩ := h
    refine ⟨by simp, by simp; omega, fun x hx => ?_⟩
    rcases List.mem_append.mp hx with hx | hx
    · exact h3 x (List.mem_of_mem_take hx)
    · rw [List.mem_singleton.mp hx]; exact hc
  · exact h
theorem kst_nms {K : List (List Nat)} : ∀ {ls : List Nat} {w : List Nat}, Nm w → (∀ c ∈ ls, 97 ≤ c ∧ c ≤ 122) → Nm (ls.foldl (kst K) w)
  | [], _, h, _ => h
  | c :: ls, w, h, hl => kst_nms (ls := ls) (kst_nm h (hl c (List.mem_cons_self ..))) fun x hx => hl x (List.mem_cons_of_mem _ hx)
def KS (c : Int) (K : List (List Nat)) (x3 x4 : Option D) : Rho := [some (.int c), some (.int 9), some (.lst (K.map wD)), x3, x4]
theorem letters_sp (c : Int) (K : List (List Nat)) (w : List Nat) (x4 : Option D) (hw : Nm w) : Ss (forF (dIt itemsS (dC (.str (Sg ABC)))) (tgN 4) Lp_l_kinds_1 (KS c K (some (wD w)) x4)) (fun r => ∃ x4, r = KS c K (some (wD (ABC.foldl (kst K) w))) x4) (fun _ => False) (fun _ => False) (fun _ => False) nE' := by
  refine ss_for (fun i r => ∃ x4, r = KS c K (some (wD ((ABC.take i).foldl (kst K) w))) x4) (rs_it (rs_c (rs_itsS ⟨⟨x4, rfl⟩, fun i d r hi hr => ?_, fun r h => ?_⟩)))
  · obtain ⟨x4, rfl⟩ := hr
    rw [List.getElem?_map] at hi
    cases hn : ABC[i]? with
    | none => rw [hn] at hi; cases hi
    | some n =>
      rw [hn] at hi
      cases hi
      refine ⟨KS c K (some (wD ((ABC.take i).foldl (kst K) w))) (some (.str (Sg [n]))), rfl, ?_⟩
      have hnm : Nm ((ABC.take i).foldl (kst K) w) := kst_nms hw fun x hx => abc_in x (List.mem_of_mem_take hx)
      rw [take_snoc hn, List.foldl_append]
      generalize (ABC.take i).foldl (kst K) w = u at hnm
      have hu := hnm.2.1
      unfold Lp_l_kinds_1
      refine ss_if (rs_T (rs_op (rs_var rfl (rs_var rfl (rs_inWL K (rs_asB ⟨fun z => ?_, fun z => ss_nx ?_⟩))))))
      · show Ss _ (fun r => ∃ x4, r = KS c K (some (wD (kst K u n))) x4) _ _ _ _
        rw [kst_in (of_decide_eq_true z)]
        refine ss_set (rs_op (rs_sl (rs_var rfl (rs_noP (rs_part (rs_c (rs_asI (rs_slS (Nat.le_trans (show _ ≤ 100000 by omega) sz5) (rs_var rfl (rs_addS (Nat.le_trans (show _ ≤ 100000 from ?_) sz5) ?_))))))))))
        · rw [show (7 : Int) = ((7 : Nat) : Int) from rfl, cut_take, List.length_take]
          show _ + 1 ≤ _
          omega
        · rw [show (7 : Int) = ((7 : Nat) : Int) from rfl, cut_take]
          exact ⟨_, rfl⟩
      · show ∃ x4, _ = KS c K (some (wD (kst K u n))) x4
        rw [kst_not (of_decide_eq_false z)]
        exact ⟨_, rfl⟩
  · rw [List.length_map, List.take_length] at h
    exact h
theorem kinds_sp (c : Int) : Rs (F_l_kinds [.int c, .int 9]) (fun d => ∃ ws : List (List Nat), d = .lst (ws.map wD) ∧ ws.length = 9 ∧ (∀ w ∈ ws, Nm w) ∧ ws.Nodup) nE := by
  refine rs_run ?_
  unfold Fb_l_kinds
  refine ss_seq (ss_set (rs_lst (rs_nil ⟨Nat.zero_le _, ?_⟩)))
  obtain ⟨_, en, ws, rfl, hwl, hwn⟩ := (names_sp c).get
  show Ss (seqF _ _ (KS c [] none none)) _ _ _ _ _
  refine ss_seq (ss_each wD ws (fun i r => ∃ K x3 x4, r = KS c K x3 x4 ∧ K.length = i ∧ (∀ w ∈ K, Nm w) ∧ K.Nodup) (rs_call (rs_cons (rs_var rfl (rs_cons (rs_var rfl (rs_nil (Rs.of en rfl))))))) ⟨[], none, none, rfl, rfl, fun w hw => (by cases hw), List.nodup_nil⟩ ?_ ?_)
  · rintro i w r hw ⟨K, x3, x4, rfl, hK, hKn, hKd⟩
    have hi : i < ws.length := (List.getElem?_eq_some_iff.mp hw).1
    have hwm := hwn w (List.mem_of_getElem? hw)
    unfold Lp_l_kinds_2
    show Ss (seqF _ _ (KS c K (some (wD w)) x4)) _ _ _ _ _
    refine ss_seq ((letters_sp c K w x4 hwm).imp ?_ (fun _ z => z.elim) (fun _ z => z.elim) (fun _ z => z.elim) fun _ _ _ _ z => z)
    rintro _ ⟨x4, rfl⟩
    have hfree : ABC.foldl (kst K) w ∉ K := kst_free (K := K) (l1 := ABC.take 7) (l2 := ABC.drop 7) (by decide) (by decide) (by show _ < 19; omega)
    have hnm : Nm (ABC.foldl (kst K) w) := kst_nms hwm abc_in
    generalize ABC.foldl (kst K) w = u at hfree hnm
    refine ss_app (ds := K.map wD) rfl (rs_var (d := wD u) rfl ⟨Nat.lt_of_lt_of_le (show _ < 100000 by rw [List.length_map]; omega) sz5, K ++ [u], some (wD u), x4, ?_, by rw [List.length_append, hK]; rfl, fun x hx => ?_, ?_⟩)
    · unfold KS
      rw [List.map_append]
      rfl
    · rcases List.mem_append.mp hx with hx | hx
      · exact hKn x hx
      · rw [List.mem_singleton.mp hx]; exact hnm
    · refine List.nodup_append.mpr ⟨hKd, by simp, fun a ha b hb e => ?_⟩
      rw [List.mem_singleton.mp hb] at e
      rw [e] at ha
      exact hfree ha
  · rintro r ⟨K, x3, x4, rfl, hK, hKn, hKd⟩
    exact ss_ret (rs_var (d := .lst (K.map wD)) rfl ⟨K, rfl, by omega, hKn, hKd⟩)
end
section
abbrev wRt : List Nat := [114, 111, 111, 116]
abbrev wBlock : List Nat := [98, 108, 111, 99, 107]
abbrev wHead : List Nat := [104, 101, 97, 100]
abbrev wSpan : List Nat := [115, 112, 97, 110]
abbrev wNote : List Nat := [110, 111, 116, 101]
abbrev wFig : List Nat := [102, 105, 103, 117, 114, 101]
abbrev wRef : List Nat := [114, 101, 102]
abbrev ROLES : List (List Nat) := [wRt, wBlock, wHead, wSpan, wNote, wFig, wRef]
abbrev TXR : List (List Nat) := [wBlock, wHead, wSpan, wNote, wFig]
def mayB (a b : List Nat) : Bool := if a = wRt then (decide (b = wBlock) || decide (b = wHead)) else if a = wBlock then decide (b ∈ [wSpan, wNote, wFig, wRef]) else if a = wHead ∨ a = wSpan then (decide (b = wSpan) || decide (b = wRef)) else ((decide (a = wNote) || decide (a = wFig)) && decide (b = wSpan))
theorem may_eq (a b : List Nat) : F_l_may [wD a, wD b] = .ok (.bl (mayB a b)) := Rs.eq (by
  show Rs (F_l_may [.str (Sg a), .str (Sg b)]) _ _
  refine rs_run ?_
  unfold Fb_l_may
  refine ss_seq (ss_if (rs_T (rs_op (rs_var rfl (rs_c (rs_eqS (rs_asB ⟨fun z => ?_, fun z => ss_nx ?_⟩)))))))
  · have z := of_decide_eq_true z
    array_get_dec
    unfold mayB
    rw [if_pos z]
  have z0 := of_decide_eq_false z
  refine ss_seq (ss_if (rs_T (rs_op (rs_var rfl (rs_c (rs_eqS (rs_asB ⟨fun z => ?_, fun z => ss_nx ?_⟩)))))))
  · have z := of_decide_eq_true z
    refine ss_ret (rs_op (rs_var (d := wD b) rfl (rs_lst (rs_cons (rs_c (rs_cons (rs_c (rs_cons (rs_c (rs_cons (rs_c (rs_nil ⟨Nat.le_of_ble_eq_true rfl, rs_inWL [wSpan, wNote, wFig, wRef] ?_⟩))))))))))))
    unfold mayB
    rw [if_neg z0, if_pos z]
  have z1 := of_decide_eq_false z
  refine ss_seq (ss_if (rs_or (rs_T (rs_op (rs_var rfl (rs_c (rs_eqS (rs_asB (rs_T (rs_op (rs_var rfl (rs_c (rs_eqS (rs_asB ⟨fun z => ?_, fun z => ss_nx ?_⟩))))))))))))))
  · have z : a = wHead ∨ a = wSpan := by simpa using z
    array_get_dec
    unfold mayB
    rw [if_neg z0, if_neg z1, if_pos z]
  · have z : ¬ (a = wHead ∨ a = wSpan) := by simpa using z
    array_get_dec
    unfold mayB
    rw [if_neg z0, if_neg z1, if_neg z])
structure GR where
  k : List Nat
  ro : List Nat
  inn : List (List Nat)
def rowD (r : GR) : D := .tup [wD r.k, wD r.ro, .tup (r.inn.map wD)]
def GrOk (top : List Nat) (R : List GR) : Prop := (R.map (·.k)).Nodup ∧ (∃ r ∈ R, r.k = top ∧ r.ro = wRt) ∧ R.length ≤ 10 ∧ ∀ r ∈ R, r.ro ∈ ROLES ∧ r.inn.length ≤ 10 ∧ ∀ w ∈ r.inn, ∃ r' ∈ R, r'.k = w ∧ mayB r.ro r'.ro = true
def LGr (m : Nat) : List Int := [(m : Int), 2] ++ (List.replicate m [9, 4096, (m : Int)]).flatten
theorem LGr_pos : ∀ m < 11, 0 < m → ∀ l ∈ LGr m, 0 < l ∧ l < 4611686018427387904 := by decide
theorem LGr_len : ∀ m < 11, (LGr m).length < 10000 := by decide
theorem LGr_a : ∀ m < 11, ∀ k < m, (LGr m)[3 * k + 2]? = some 9 := by decide
theorem LGr_b : ∀ m < 11, ∀ k < m, (LGr m)[3 * k + 3]? = some 4096 := by decide
theorem LGr_c : ∀ m < 11, ∀ k < m, (LGr m)[3 * k + 4]? = some (m : Int) := by decide
abbrev MENU : List (List Nat) := [wBlock, wSpan, wHead, wNote, wFig, wRef, wBlock, wSpan, wRt]
theorem menu_in : ∀ w ∈ MENU, w ∈ ROLES := by decide
def GS (c : Int) (ks : List (List Nat)) (vs : List Int) (rs : List (List Nat)) (x6 x7 x8 x9 x10 x11 : Option D) : Rho := [some (.int c), some (.lst (ks.map wD)), some (.int (ks.length : Int)), some (iL vs), some (.lst (MENU.map wD)), some (.lst (rs.map wD)), x6, x7, x8, x9, x10, x11]
theorem nd_ix {α : Type} {l : List α} (h : l.Nodup) {i j : Nat} {x : α} (hi : l[i]? = some x) (hj : l[j]? = some x) : i = j := by
  obtain ⟨a, ea⟩ := List.getElem?_eq_some_iff.mp hi
  obtain ⟨b, eb⟩ := List.getElem?_eq_some_iff.mp hj
  rcases Nat.lt_trichotomy i j with h1 | h1 | h1
  · exact absurd (ea.trans eb.symm) (List.pairwise_iff_getElem.mp h i j a b h1)
  · exact h1
  · exact absurd (eb.trans ea.symm) (List.pairwise_iff_getElem.mp h j i b a h1)
theorem mod_ne {m v : Int} {a b : Nat} (h1 : a < b) (h2 : (b : Int) < m) (h : ((a : Int) + v) % m = ((b : Int) + v) % m) : False := by
  have h3 := (Int.emod_eq_emod_iff_emod_sub_eq_zero (m := ((b : Int) + v)) (n := m) (k := ((a : Int) + v))).mp h.symm
  rw [show (b : Int) + v - ((a : Int) + v) = (b : Int) - a from by omega, Int.emod_eq_of_lt (by omega) (by omega)] at h3
  omega
def NdAt (ks : List (List Nat)) (u : Int) (j : Nat) (inn : List (List Nat)) : Prop := inn.Nodup ∧ ∀ w ∈ inn, ∃ j' : Nat, j' < j ∧ ks[(((j' : Int) + u) % (ks.length : Int)).toNat]? = some w
theorem NdAt.up {ks : List (List Nat)} {u : Int} {j : Nat} {inn : List (List Nat)} (h : NdAt ks u j inn) : NdAt ks u (j + 1) inn := ⟨h.1, fun w hw => by obtain ⟨j', h1, h2⟩ := h.2 w hw; exact ⟨j', by omega, h2⟩⟩
theorem NdAt.snoc {ks : List (List Nat)} {u : Int} {j t : Nat} {inn : List (List Nat)} {w : List Nat} (h : NdAt ks u j inn) (hd : ks.Nodup) (hj : j < ks.length) (ht : ((j : Int) + u) % (ks.length : Int) = (t : Int)) (hw : ks[t]? = some w) : NdAt ks u (j + 1) (inn ++ [w]) := by
  have hw' : ks[(((j : Int) + u) % (ks.length : Int)).toNat]? = some w := by rw [ht]; exact hw
  refine ⟨List.nodup_append.mpr ⟨h.1, by simp, fun a ha b hb e => ?_⟩, fun x hx => ?_⟩
  · rw [List.mem_singleton.mp hb] at e
    subst e
    obtain ⟨j', h1, h2⟩ := h.2 _ ha
    have e1 := nd_ix hd h2 hw'
    have p1 : 0 ≤ ((j' : Int) + u) % (ks.length : Int) := Int.emod_nonneg _ (by omega)
    have p2 : 0 ≤ ((j : Int) + u) % (ks.length : Int) := Int.emod_nonneg _ (by omega)
    exact mod_ne (m := (ks.length : Int)) (v := u) h1 (by omega) (by omega)
  · rcases List.mem_append.mp hx with hx | hx
    · exact h.up.2 x hx
    · rw [List.mem_singleton.mp hx]
      exact ⟨j, by omega, hw'⟩
def InOk (ks rs : List (List Nat)) (ro : List Nat) (inn : List (List Nat)) : Prop := ∀ w ∈ inn, ∃ (j : Nat) (ro' : List Nat), ks[j]? = some w ∧ rs[j]? = some ro' ∧ mayB ro ro' = true
def RowsOk (ks rs : List (List Nat)) (R : List GR) : Prop := ∀ (j : Nat) (r : GR), R[j]? = some r → ks[j]? = some r.k ∧ rs[j]? = some r.ro ∧ r.inn.length ≤ 10 ∧ InOk ks rs r.ro r.inn ∧ r.inn.Nodup
theorem inner_sp (c : Int) (ks : List (List Nat)) (h2 : 1 ≤ ks.length) (h10 : ks.length ≤ 10) (hd : ks.Nodup) {vs : List Int} (hf : Fit vs (LGr ks.length)) {rs : List (List Nat)} (hrs : rs.length = ks.length) (k : Nat) (hk : k < ks.length) {ro : List Nat} (hro : rs[k]? = some ro) (x7 x10 x11 : Option D) (z : Int) :
    Ss (forF (dIts rng1 (dCons (dVar 2) dNil)) (tgN 10) Lp_l_grammar_1 (GS c ks vs rs (some (.int (k : Int))) x7 (some (.int z)) (some (.lst [])) x10 x11)) (fun r => ∃ (inn : List (List Nat)) (z : Int) (x10 x11 : Option D), r = GS c ks vs rs (some (.int (k : Int))) x7 (some (.int z)) (some (.lst (inn.map wD))) x10 x11 ∧ inn.length ≤ 10 ∧ InOk ks rs ro inn ∧ inn.Nodup) (fun _ => False) (fun _ => False) (fun _ => False) nE' := by
  refine ss_rng ks.length (fun j r => ∃ (inn : List (List Nat)) (z : Int) (x10 x11 : Option D), r = GS c ks vs rs (some (.int (k : Int))) x7 (some (.int z)) (some (.lst (inn.map wD))) x10 x11 ∧ inn.length ≤ j ∧ InOk ks rs ro inn ∧ NdAt ks (vs.getD (3 * k + 4) 0) j inn) (rs_var rfl rfl) (by omega) ⟨[], z, x10, x11, rfl, Nat.le_refl _, fun w hw => (by cases hw), List.nodup_nil, fun w hw => (by cases hw)⟩ ?_ ?_
  · rintro j r hj ⟨inn, z, x10, x11, rfl, hl, hin, hnd⟩
    show Ss (Lp_l_grammar_1 (GS c ks vs rs (some (.int (k : Int))) x7 (some (.int z)) (some (.lst (inn.map wD))) (some (.int (j : Int))) x11)) _ _ _ _ _
    unfold Lp_l_grammar_1
    refine ss_seq (ss_set (rs_op (rs_call (rs_cons (rs_op (rs_var rfl (rs_op (rs_var rfl (rs_op (rs_op (rs_c (rs_var rfl (rs_mul (Or.inl (small_of (by omega) (by omega))) (rs_c (rs_add ?_)))))))))))))))
    refine ix_row (k := 3 * k + 4) hf (LGr_c _ (by omega) k hk) (by omega) fun v hv a0 a1 => ?_
    have hU : vs.getD (3 * k + 4) 0 = v := by rw [List.getD_eq_getElem?_getD, hv]; rfl
    refine rs_add (rs_nil (rs_int (rs_var rfl (rs_mod (by omega) ?_))))
    have m0 : 0 ≤ ((j : Int) + v) % (ks.length : Int) := Int.emod_nonneg _ (by omega)
    have m1 : ((j : Int) + v) % (ks.length : Int) < ks.length := Int.emod_lt_of_pos _ (by omega)
    obtain ⟨t, ht⟩ := Int.eq_ofNat_of_zero_le m0
    rw [ht] at m1 ⊢
    have htk : t < ks.length := by omega
    have e1 : ks[t]? = some ks[t] := List.getElem?_eq_getElem htk
    have e2 : rs[t]? = some rs[t] := List.getElem?_eq_getElem (by omega)
    generalize ks[t] = w at e1
    generalize rs[t] = ro' at e2
    show Ss (seqF _ _ (GS c ks vs rs (some (.int (k : Int))) x7 (some (.int z)) (some (.lst (inn.map wD))) (some (.int (j : Int))) (some (.int (t : Int))))) _ _ _ _ _
    refine ss_seq (ss_cut (fun r => ∃ inn : List (List Nat), r = GS c ks vs rs (some (.int (k : Int))) x7 (some (.int z)) (some (.lst (inn.map wD))) (some (.int (j : Int))) (some (.int (t : Int))) ∧ inn.length ≤ j + 1 ∧ InOk ks rs ro inn ∧ NdAt ks (vs.getD (3 * k + 4) 0) (j + 1) inn) ?_ ?_)
    · refine ss_ifa (rs_T (rs_op (rs_op (rs_call (rs_cons (rs_var rfl (rs_nil (rs_int (rs_c (rs_mod (by omega) (rs_c (rs_eqI (rs_asB ⟨fun _ => ?_, fun _ => ss_nx ⟨inn, rfl, by omega, hin, hnd.up⟩⟩)))))))))))))
      refine ss_if (rs_T (rs_call (rs_cons (rs_op (rs_var rfl (rs_var rfl (rs_ixL (d := wD ro) (atI_nat (by rw [List.getElem?_map, hro]; rfl)) (rs_cons (rs_op (rs_var rfl (rs_var rfl (rs_ixL (d := wD ro') (atI_nat (by rw [List.getElem?_map, e2]; rfl)) (rs_nil (Rs.of (may_eq ro ro') (rs_asB ⟨fun z => ?_, fun _ => ss_nx ⟨inn, rfl, by omega, hin, hnd.up⟩⟩)))))))))))))))
      refine ss_app (ds := inn.map wD) rfl (rs_op (rs_var rfl (rs_var rfl (rs_ixL (d := wD w) (atI_nat (by rw [List.getElem?_map, e1]; rfl)) ⟨Nat.lt_of_lt_of_le (show _ < 100000 by rw [List.length_map]; omega) sz5, inn ++ [w], ?_, by rw [List.length_append]; show _ + 1 ≤ _; omega, fun x hx => ?_, hnd.snoc hd hj (by rw [hU]; exact ht) e1⟩))))
      · rw [List.map_append]; rfl
      · rcases List.mem_append.mp hx with hx | hx
        · exact hin x hx
        · rw [List.mem_singleton.mp hx]; exact ⟨t, ro', e1, e2, z⟩
    · rintro _ ⟨inn, rfl, hl, hin, hnd⟩
      exact ss_set (rs_op (rs_var rfl (rs_c (rs_fdiv (by omega) ⟨inn, _, _, _, rfl, hl, hin, hnd⟩))))
  · rintro r ⟨inn, z, x10, x11, rfl, hl, hin, hnd⟩
    exact ⟨inn, z, x10, x11, rfl, by omega, hin, hnd.1⟩
theorem RowsOk.gr {ks rs : List (List Nat)} {R : List GR} (h : RowsOk ks rs R) (hl : R.length = ks.length) (hrs : rs.length = ks.length) (hd : ks.Nodup) (h10 : ks.length ≤ 10) (hro : ∀ r ∈ rs, r ∈ ROLES) {i : Nat} {top : List Nat} (h1 : ks[i]? = some top) (h2 : rs[i]? = some wRt) : R.map (·.k) = ks ∧ GrOk top R := by
  have ek : R.map (·.k) = ks := List.ext_getElem? fun i => by
    rw [List.getElem?_map]
    cases hr : R[i]? with
    | none => rw [List.getElem?_eq_none (by have := List.getElem?_eq_none_iff.mp hr; omega)]; rfl
    | some r => rw [(h i r hr).1]; rfl
  have hat : ∀ (j : Nat) (w ro : List Nat), ks[j]? = some w → rs[j]? = some ro → ∃ r ∈ R, r.k = w ∧ r.ro = ro := fun j w ro e1 e2 => by
    have hj : j < R.length := by have := (List.getElem?_eq_some_iff.mp e1).1; omega
    obtain ⟨q1, q2, _⟩ := h j R[j] (List.getElem?_eq_getElem hj)
    refine ⟨R[j], List.getElem_mem hj, ?_, ?_⟩
    · rw [q1] at e1; exact Option.some.inj e1
    · rw [q2] at e2; exact Option.some.inj e2
  refine ⟨ek, by rw [ek]; exact hd, hat i _ _ h1 h2, by omega, fun r hr => ?_⟩
  obtain ⟨j, hj⟩ := List.mem_iff_getElem?.mp hr
  obtain ⟨q1, q2, q3, q4, _⟩ := h j r hj
  refine ⟨hro _ (List.mem_of_getElem? q2), q3, fun w hw => ?_⟩
  obtain ⟨j', ro', e1, e2, e3⟩ := q4 w hw
  obtain ⟨r', m, n1, n2⟩ := hat j' w ro' e1 e2
  exact ⟨r', m, n1, by rw [n2]; exact e3⟩
theorem RowsOk.nd {ks rs : List (List Nat)} {R : List GR} (h : RowsOk ks rs R) : ∀ r ∈ R, r.inn.Nodup := fun r hr => by
  obtain ⟨j, hj⟩ := List.mem_iff_getElem?.mp hr
  exact (h j r hj).2.2.2.2
theorem grammar_sp (c : Int) (ks : List (List Nat)) (h2 : 1 ≤ ks.length) (h10 : ks.length ≤ 10) (hd : ks.Nodup) : Rs (F_l_grammar [.int c, .lst (ks.map wD)]) (fun d => ∃ top R, d = .tup [wD top, .lst (R.map rowD)] ∧ R.map (·.k) = ks ∧ GrOk top R ∧ ∀ r ∈ R, r.inn.Nodup) nE := by
  refine rs_run ?_
  unfold Fb_l_grammar
  refine ss_seq (ss_set (rs_call (rs_cons (rs_var rfl (rs_nil (rs_lenL ?_))))))
  rw [List.length_map]
  refine ss_seq (ss_set (rs_call (rs_cons (rs_var rfl (rs_cons (rs_op (rs_lst (rs_cons (rs_var rfl (rs_cons (rs_c (rs_nil ⟨Nat.le_of_ble_eq_true rfl, ?_⟩))))))))))))
  refine rs_op (rs_lst (rs_cons (rs_c (rs_cons (rs_c (rs_cons (rs_var rfl (rs_nil ⟨Nat.le_of_ble_eq_true rfl, rs_var rfl ?_⟩))))))))
  refine rs_mulL ⟨by omega, by omega, Nat.le_trans (show 3 * (ks.length : Int).toNat ≤ 100000 by omega) sz5⟩ ?_
  have el : [D.int (ks.length : Int), .int 2] ++ (List.replicate (ks.length : Int).toNat [D.int 9, .int 4096, .int (ks.length : Int)]).flatten = (LGr ks.length).map D.int := by
    unfold LGr
    rw [List.map_append, List.map_flatten, List.map_replicate, Int.toNat_natCast]
    rfl
  refine rs_addLL (Nat.le_trans (show _ ≤ 100000 by rw [List.length_flatten, List.map_replicate, List.sum_replicate_nat, Int.toNat_natCast]; simp; omega) sz5) (rs_nil ?_)
  rw [el]
  show Rs (F_l_row [.int c, iL (LGr ks.length)]) _ _
  refine row_of c (LGr ks.length) (LGr_pos _ (by omega) (by omega)) (LGr_len _ (by omega)) fun vs hf => ?_
  refine ss_seq (ss_set (rs_lst (rs_cons (rs_c (rs_cons (rs_c (rs_cons (rs_c (rs_cons (rs_c (rs_cons (rs_c (rs_cons (rs_c (rs_cons (rs_c (rs_cons (rs_c (rs_cons (rs_c (rs_nil ⟨Nat.le_of_ble_eq_true rfl, ?_⟩)))))))))))))))))))))
  show Ss (seqF _ _ [some (.int c), some (.lst (ks.map wD)), some (.int (ks.length : Int)), some (iL vs), some (.lst (MENU.map wD)), none, none, none, none, none, none, none]) _ _ _ _ _
  refine ss_seq (ss_set (rs_lc (fun k : Nat => D.int (k : Int)) (fun k => wD (MENU.getD (vs.getD (3 * k + 2) 0).toNat [])) (List.range ks.length) (rs_rngC (rs_var rfl rfl) (by omega)) (Nat.le_trans (show _ ≤ 100000 by rw [List.length_range]; omega) sz5) (fun k hk => ⟨_, rfl, rfl, ?_⟩) ?_))
  · have hk := List.mem_range.mp hk
    refine rs_op (rs_var (d := .lst (MENU.map wD)) rfl (rs_op (rs_var (d := iL vs) rfl (rs_op (rs_op (rs_c (rs_var (d := .int (k : Int)) rfl (rs_mul (Or.inl (small_of (by omega) (by omega))) (rs_c (rs_add ?_))))))))))
    refine ix_row (k := 3 * k + 2) hf (LGr_a _ (by omega) k hk) (by omega) fun v hv a0 a1 => ?_
    rw [show vs.getD (3 * k + 2) 0 = v by rw [List.getD_eq_getElem?_getD, hv]; rfl]
    have hlt : v.toNat < MENU.length := by show _ < 9; omega
    refine rs_ixL (d := wD (MENU.getD v.toNat [])) (at_pos a0 ?_) rfl
    rw [List.getElem?_map, List.getD_eq_getElem?_getD, List.getElem?_eq_getElem hlt]
    rfl
  have hmem : ∀ r ∈ (List.range ks.length).map (fun k => MENU.getD (vs.getD (3 * k + 2) 0).toNat []), r ∈ ROLES := by
    intro r hr
    obtain ⟨k, hk, rfl⟩ := List.mem_map.mp hr
    have hk := List.mem_range.mp hk
    obtain ⟨v, hv, a0, a1⟩ := hf.get (LGr_a _ (by omega) k hk)
    rw [show vs.getD (3 * k + 2) 0 = v by rw [List.getD_eq_getElem?_getD, hv]; rfl, List.getD_eq_getElem?_getD]
    have hlt : v.toNat < MENU.length := by show _ < 9; omega
    refine menu_in _ ?_
    show (MENU[v.toNat]?).getD [] ∈ MENU
    rw [List.getElem?_eq_getElem hlt]
    exact List.getElem_mem hlt
  obtain ⟨rs0, hrs0, hrl0, hrr0⟩ : ∃ rs0 : List (List Nat), rs0 = (List.range ks.length).map (fun k => MENU.getD (vs.getD (3 * k + 2) 0).toNat []) ∧ rs0.length = ks.length ∧ ∀ r ∈ rs0, r ∈ ROLES := ⟨_, rfl, by rw [List.length_map, List.length_range], hmem⟩
  have emap : (List.range ks.length).map (fun k => wD (MENU.getD (vs.getD (3 * k + 2) 0).toNat [])) = rs0.map wD := by rw [hrs0, List.map_map]; rfl
  rw [emap]
  clear hrs0 emap
  show Ss (seqF _ _ (GS c ks vs rs0 none none none none none none)) _ _ _ _ _
  have i0 : (LGr ks.length)[0]? = some (ks.length : Int) := rfl
  have i1 : (LGr ks.length)[1]? = some 2 := rfl
  obtain ⟨v0, hv0, a0, a1⟩ := hf.get i0
  obtain ⟨t, rfl⟩ := Int.eq_ofNat_of_zero_le a0
  have htk : t < ks.length := by omega
  have hx0 : atI (vs.map D.int) 0 = some (.int (t : Int)) := atI_nat (j := 0) (by rw [List.getElem?_map, hv0]; rfl)
  refine ss_seq (ss_sto (n := t) (k := (t : Int)) (ds := rs0.map wD) (rs_c ⟨rfl, rs_op (rs_var rfl (rs_c (rs_ixL hx0 ⟨rfl, by rw [List.length_map]; exact ixN_nat (by omega), ?_⟩)))⟩))
  obtain ⟨rs, hrs, hrl, hrr, hrt⟩ : ∃ rs : List (List Nat), rs.map wD = (rs0.map wD).set t (.str (Sg [114, 111, 111, 116])) ∧ rs.length = ks.length ∧ (∀ r ∈ rs, r ∈ ROLES) ∧ rs[t]? = some wRt := ⟨rs0.set t wRt, List.map_set, by rw [List.length_set]; exact hrl0, mem_set_of hrr0 (by decide), by rw [List.getElem?_set_self (by omega)]⟩
  rw [← hrs]
  show Ss (seqF _ _ (GS c ks vs rs none none none none none none)) _ _ _ _ _
  refine ss_seq (ss_set (rs_lst (rs_nil ⟨Nat.zero_le _, ?_⟩)))
  refine ss_seq (ss_rng ks.length (fun k r => ∃ (R : List GR) (x6 x8 x9 x10 x11 : Option D), r = GS c ks vs rs x6 (some (.lst (R.map rowD))) x8 x9 x10 x11 ∧ R.length = k ∧ RowsOk ks rs R) (rs_var rfl rfl) (by omega) ⟨[], none, none, none, none, none, rfl, rfl, fun j r h => (by cases h)⟩ ?_ ?_)
  · rintro k r hk ⟨R, x6, x8, x9, x10, x11, rfl, hR, hok⟩
    show Ss (Lp_l_grammar_2 (GS c ks vs rs (some (.int (k : Int))) (some (.lst (R.map rowD))) x8 x9 x10 x11)) _ _ _ _ _
    unfold Lp_l_grammar_2
    refine ss_seq (ss_par (rs_op (rs_var rfl (rs_op (rs_op (rs_c (rs_var rfl (rs_mul (Or.inl (small_of (by omega) (by omega))) (rs_c (rs_add ?_))))))))))
    refine ix_row (k := 3 * k + 3) hf (LGr_b _ (by omega) k hk) (by omega) fun v _ b0 b1 => ?_
    refine rs_lst (rs_nil ⟨Nat.zero_le _, ?_⟩)
    have ek : ks[k]? = some ks[k] := List.getElem?_eq_getElem hk
    have er : rs[k]? = some rs[k] := List.getElem?_eq_getElem (by omega)
    generalize ks[k] = w at ek
    generalize rs[k] = ro at er
    show Ss (seqF _ _ (GS c ks vs rs (some (.int (k : Int))) (some (.lst (R.map rowD))) (some (.int v)) (some (.lst [])) x10 x11)) _ _ _ _ _
    refine ss_seq ((inner_sp c ks h2 h10 hd hf hrl k hk er _ x10 x11 v).imp ?_ (fun _ z => z.elim) (fun _ z => z.elim) (fun _ z => z.elim) fun _ _ _ _ z => z)
    rintro _ ⟨inn, z, x10, x11, rfl, hil, hin, hnd⟩
    refine ss_seq (ss_cut (fun r => ∃ inn : List (List Nat), r = GS c ks vs rs (some (.int (k : Int))) (some (.lst (R.map rowD))) (some (.int z)) (some (.lst (inn.map wD))) x10 x11 ∧ inn.length ≤ 10 ∧ InOk ks rs ro inn ∧ inn.Nodup) ?_ ?_)
    · refine ss_if (rs_T (rs_op (rs_op (rs_var rfl (rs_c (ix_row (k := 1) hf i1 rfl fun v _ _ _ => rs_c (rs_eqI (rs_asB ⟨fun _ => ?_, fun _ => ss_nx ⟨inn, rfl, hil, hin, hnd⟩⟩))))))))
      refine ss_rev (ds := inn.map wD) rfl ⟨inn.reverse, by rw [List.map_reverse]; rfl, by rw [List.length_reverse]; exact hil, fun x hx => hin x (List.mem_reverse.mp hx), (by unfold List.Nodup; exact List.pairwise_reverse.mpr (List.Pairwise.imp (fun h e => h e.symm) hnd))⟩
    · rintro _ ⟨inn, rfl, hil, hin, hnd⟩
      refine ss_app (ds := R.map rowD) rfl (rs_tup (rs_cons (rs_op (rs_var rfl (rs_var rfl (rs_ixL (d := wD w) (atI_nat (by rw [List.getElem?_map, ek]; rfl)) (rs_cons (rs_op (rs_var rfl (rs_var rfl (rs_ixL (d := wD ro) (atI_nat (by rw [List.getElem?_map, er]; rfl)) (rs_cons (rs_call (rs_cons (rs_var rfl (rs_nil (rs_tupL (rs_nil ?_))))))))))))))))))
      refine ⟨Nat.le_of_ble_eq_true rfl, Nat.lt_of_lt_of_le (show _ < 100000 by rw [List.length_map]; omega) sz5, R ++ [⟨w, ro, inn⟩], some (.int (k : Int)), some (.int z), some (.lst (inn.map wD)), x10, x11, by rw [List.map_append]; rfl, by rw [List.length_append, hR]; rfl, fun j r hj => ?_⟩
      by_cases hjl : j < R.length
      · rw [List.getElem?_append_left hjl] at hj
        exact hok j r hj
      · rw [List.getElem?_append_right (by omega)] at hj
        have hj0 : j - R.length = 0 := by
          have := (List.getElem?_eq_some_iff.mp hj).1
          rw [List.length_singleton] at this
          omega
        rw [hj0] at hj
        cases hj
        rw [show j = k by omega]
        exact ⟨ek, er, hil, hin, hnd⟩
  · rintro r ⟨R, x6, x8, x9, x10, x11, rfl, hR, hok⟩
    have ek : ks[t]? = some ks[t] := List.getElem?_eq_getElem htk
    generalize ks[t] = top at ek
    obtain ⟨q1, q2⟩ := hok.gr hR hrl hd h10 hrr ek hrt
    exact ss_ret (rs_tup (rs_cons (rs_op (rs_var rfl (rs_op (rs_var (d := iL vs) rfl (rs_c (rs_ixL hx0 (rs_ixL (d := wD top) (atI_nat (by rw [List.getElem?_map, ek]; rfl)) (rs_cons (rs_var (d := .lst (R.map rowD)) rfl (rs_nil ⟨Nat.le_of_ble_eq_true rfl, top, R, rfl, q1, q2, hok.nd⟩))))))))))))
end
section
def tks (R : List GR) : List Key := R.map fun r => Sum.inr (Sg r.k)
def valR (r : GR) : D := .tup [wD r.ro, .tup (r.inn.map wD)]
def tvs (R : List GR) : List D := R.map valR
def tbD (R : List GR) : D := .dk (tks R) (tvs R)
def fdR (R : List GR) (k : List Nat) : Option GR := R.find? fun r => decide (r.k = k)
theorem getK_R (R : List GR) (k : List Nat) : getK (tks R) (tvs R) (Sum.inr (Sg k)) = (fdR R k).map valR := by
  unfold fdR
  induction R with
  | nil => rfl
  | cons r R ih =>
    rw [List.find?_cons]
    show getK (Sum.inr (Sg r.k) :: tks R) (valR r :: tvs R) _ = _
    unfold getK
    by_cases h : r.k = k
    · rw [if_pos (by rw [h]), decide_eq_true h]
      rfl
    · rw [if_neg (fun e => h (by simpa using Sum.inr.inj e)), decide_eq_false h]
      exact ih
theorem fdR_none {R : List GR} {k : List Nat} : fdR R k = none ↔ k ∉ R.map (·.k) := by
  unfold fdR
  rw [List.find?_eq_none]
  constructor
  · intro h hm
    obtain ⟨r, hr, e⟩ := List.mem_map.mp hm
    exact h r hr (decide_eq_true e)
  · intro h r hr e
    exact h (List.mem_map.mpr ⟨r, hr, of_decide_eq_true e⟩)
theorem fdR_mem {R : List GR} (hd : (R.map (·.k)).Nodup) {r : GR} (hr : r ∈ R) : fdR R r.k = some r := by
  unfold fdR
  induction R with
  | nil => cases hr
  | cons x R ih =>
    rw [List.find?_cons]
    rw [List.map_cons] at hd
    obtain ⟨h1, h2⟩ := List.nodup_cons.mp hd
    rcases List.mem_cons.mp hr with rfl | hr
    · rw [decide_eq_true rfl]
    · rw [decide_eq_false (fun e => h1 (by rw [e]; exact List.mem_map_of_mem hr))]
      exact ih h2 hr
theorem fdR_some {R : List GR} {k : List Nat} {r : GR} (h : fdR R k = some r) : r ∈ R ∧ r.k = k := ⟨List.mem_of_find?_eq_some h, of_decide_eq_true (List.find?_some (p := fun r : GR => decide (r.k = k)) (l := R) h)⟩
theorem put_new {R : List GR} {r : GR} (h : r.k ∉ R.map (·.k)) : putV (tks R) (tvs R) (Sum.inr (Sg r.k)) (valR r) = (tks (R ++ [r]), tvs (R ++ [r])) := by
  unfold putV
  rw [if_neg, show tks (R ++ [r]) = tks R ++ [Sum.inr (Sg r.k)] by unfold tks; rw [List.map_append]; rfl, show tvs (R ++ [r]) = tvs R ++ [valR r] by unfold tvs; rw [List.map_append]; rfl]
  intro q
  obtain ⟨x, hx, e⟩ := List.any_eq_true.mp q
  obtain ⟨r', hr', rfl⟩ := List.mem_map.mp hx
  have e := Sum.inr.inj (of_decide_eq_true e)
  exact h (List.mem_map.mpr ⟨r', hr', by simpa using e⟩)
section
variable {Q : D → Prop} {E : Str → List Str → List D → Prop} {R : List GR}
theorem rs_getR {k : List Nat} {r : GR} (h : fdR R k = some r) (q : Q (valR r)) : Rs (getZ (tbD R) (wD k)) Q E := by
  show Rs (match getK (tks R) (tvs R) (Sum.inr (Sg k)) with | some d => Res.ok d | none => Res.bad) Q E
  rw [getK_R, h]
  exact q
theorem rs_inR {neg : Bool} {k : List Nat} (q : Q (.bl (if neg then !(fdR R k).isSome else (fdR R k).isSome))) : Rs (inK neg (wD k) (tbD R)) Q E := by
  show Q (.bl (if neg then !(getK (tks R) (tvs R) (Sum.inr (Sg k))).isSome else (getK (tks R) (tvs R) (Sum.inr (Sg k))).isSome))
  rw [getK_R, Option.isSome_map]
  exact q
end
theorem take_nd {R : List GR} (hd : (R.map (·.k)).Nodup) {i : Nat} {r : GR} (hi : R[i]? = some r) : r.k ∉ (R.take i).map (·.k) := by
  intro h
  have h2 : (R.map (·.k)) = (R.take i).map (·.k) ++ (R.drop i).map (·.k) := by rw [← List.map_append, List.take_append_drop]
  rw [h2] at hd
  have hi2 : r ∈ R.drop i := List.mem_of_getElem? (i := 0) (by rw [List.getElem?_drop]; exact hi)
  exact (List.nodup_append.mp hd).2.2 _ h _ (List.mem_map_of_mem hi2) rfl
theorem table_eq {R : List GR} (hd : (R.map (·.k)).Nodup) (hl : R.length ≤ 10) : F_l_table [.lst (R.map rowD)] = .ok (tbD R) := Rs.eq (by
  refine rs_run ?_
  unfold Fb_l_table
  refine ss_seq (ss_set (show Rs (Res.ok _) _ _ from ?_))
  refine ss_seq (ss_each rowD R (fun i r => ∃ x2, r = [some (.lst (R.map rowD)), some (tbD (R.take i)), x2]) (rs_var rfl rfl) ⟨none, rfl⟩ ?_ ?_)
  · rintro i x r hi ⟨x2, rfl⟩
    have hnew := take_nd hd hi
    have hlen : (R.take i).length ≤ 10 := by rw [List.length_take]; omega
    rw [take_snoc hi]
    generalize R.take i = S at hnew hlen
    unfold Lp_l_table_1
    refine ss_lift (rs_tup (rs_cons (rs_op (rs_var (d := rowD x) rfl (rs_c (rs_ixT (d := wD x.ro) (atI_nat (j := 1) rfl) (rs_cons (rs_op (rs_var (d := rowD x) rfl (rs_c (rs_ixT (d := .tup (x.inn.map wD)) (atI_nat (j := 2) rfl) (rs_nil ⟨Nat.le_of_ble_eq_true rfl, ?_⟩))))))))))))
    refine ss_lift (Rs.of (a := (tks S, tvs S)) rfl (ss_lift (rs_op (rs_var (d := rowD x) rfl (rs_c (rs_ixT (d := wD x.k) (atI_nat (j := 0) rfl) (ss_lift (Rs.of (a := (Sum.inr (Sg x.k) : Key)) rfl ?_))))))))
    rw [guardS_pos (Nat.lt_of_lt_of_le (show (tks S).length < 100000 by unfold tks; rw [List.length_map]; omega) sz5)]
    refine ⟨some (rowD x), ?_⟩
    have := put_new (R := S) (r := x) hnew
    show List.set _ 1 (some (D.dk (putV (tks S) (tvs S) (Sum.inr (Sg x.k)) (valR x)).1 (putV (tks S) (tvs S) (Sum.inr (Sg x.k)) (valR x)).2)) = _
    rw [this]
    rfl
  · rintro r ⟨x2, rfl⟩
    rw [List.take_length]
    exact ss_ret (rs_var (d := tbD R) rfl rfl))
def grD (top : List Nat) (R : List GR) : D := .obj "Grammar" ["root", "order", "entries"] [wD top, .lst (R.map fun r => wD r.k), tbD R]
theorem roles_may : ∀ a ∈ ROLES, ∀ b ∈ ROLES, ∃ ds, mdGet md_INNER_ROLES (wD a) = .ok (.kt ds) ∧ inFlat (wD b) ds = some (mayB a b) := by
  intro a ha b hb
  simp only [List.mem_cons, List.not_mem_nil, or_false] at ha hb
  rcases ha with rfl | rfl | rfl | rfl | rfl | rfl | rfl <;> rcases hb with rfl | rfl | rfl | rfl | rfl | rfl | rfl <;> exact ⟨_, rfl, rfl⟩
theorem roles_tx : ∀ a ∈ ROLES, inFlat (wD a) [.str "block", .str "head", .str "span", .str "note", .str "figure"] = some (decide (a ∈ TXR)) := by
  intro a ha
  simp only [List.mem_cons, List.not_mem_nil, or_false] at ha
  rcases ha with rfl | rfl | rfl | rfl | rfl | rfl | rfl <;> rfl
theorem rs_inMd {neg : Bool} {a : List Nat} {ds : List D} {b : Bool} {Q : D → Prop} {E : Str → List Str → List D → Prop} (h : inFlat (wD a) ds = some b) (q : Q (.bl (if neg then !b else b))) : Rs (inKt neg (wD a) (.kt ds)) Q E := by
  unfold inKt
  dsimp only
  rw [h]
  exact q
theorem inner_eq {top : List Nat} {R : List GR} (ok : GrOk top R) {r : GR} (hr : r ∈ R) : F_Grammar_check_inner [grD top R, wD r.k] = .ok .non := Rs.eq (by
  obtain ⟨hd, _, hl, hok⟩ := ok
  obtain ⟨hro, hil, hin⟩ := hok r hr
  refine rs_run ?_
  unfold Fb_Grammar_check_inner
  have fld : ∀ {x2 x3 x4 : Option D} {Q : D → Prop} {E : Str → List Str → List D → Prop}, Q (tbD R) → Rs (dUn (fldD "Grammar" "entries") (dVar 0) [some (grD top R), some (wD r.k), x2, x3, x4]) Q E := fun q => rs_un (rs_var (d := grD top R) rfl (rs_fld (d := tbD R) rfl q))
  refine ss_seq (ss_asg (rs_op (fld (rs_var (d := wD r.k) rfl (rs_getR (fdR_mem hd hr) ⟨[some (grD top R), some (wD r.k), some (wD r.ro), some (.tup (r.inn.map wD)), none], rfl, ?_⟩)))))
  refine ss_for (fun i s => ∃ x4, s = [some (grD top R), some (wD r.k), some (wD r.ro), some (.tup (r.inn.map wD)), x4]) (rs_it (rs_var rfl (rs_itsT ⟨⟨none, rfl⟩, fun i d s hi hs => ?_, fun s hs => ?_⟩)))
  · obtain ⟨x4, rfl⟩ := hs
    rw [List.getElem?_map] at hi
    cases hw : r.inn[i]? with
    | none => rw [hw] at hi; cases hi
    | some w =>
      rw [hw] at hi
      cases hi
      obtain ⟨r', hr', rfl, hm⟩ := hin w (List.mem_of_getElem? hw)
      obtain ⟨ds, h1, h2⟩ := roles_may _ hro _ (hok r' hr').1
      refine ⟨[some (grD top R), some (wD r.k), some (wD r.ro), some (.tup (r.inn.map wD)), some (wD r'.k)], rfl, ?_⟩
      have hf := fdR_mem hd hr'
      unfold Lp_Grammar_check_inner_1
      refine ss_seq (ss_if (rs_T (rs_op (rs_var (d := wD r'.k) rfl (fld (rs_inR (rs_asB ⟨fun z => ?_, fun _ => ss_nx ?_⟩)))))))
      · rw [hf] at z; cases z
      refine ss_if (rs_T (rs_op (rs_op (rs_op (fld (rs_var (d := wD r'.k) rfl (rs_getR hf (rs_c (rs_ixT (d := wD r'.ro) (atI_nat (j := 0) rfl) (rs_un (rs_var (d := wD r.ro) rfl (Rs.of h1 (rs_inMd h2 (rs_asB ⟨fun z => ?_, fun _ => ss_nx ⟨_, rfl⟩⟩))))))))))))))
      rw [hm] at z
      cases z
  · exact rfl)
end
section
theorem ss_nxE {o : SR} {N : Rho → Prop} (h : Ss o N (fun _ => False) (fun _ => False) (fun _ => False) nE') : ∃ r, o = .nx r ∧ N r := by
  cases o with
  | nx r => exact ⟨r, rfl, h⟩
  | rt d => exact h.elim
  | bk r => exact h.elim
  | ct r => exact h.elim
  | er r n ns vs => exact h.elim
  | bad => exact h.elim
def GI (top : List Nat) (R S : List GR) (x3 x4 x5 : Option D) : Rho := [some (.obj "Grammar" [] []), some (wD top), some (.lst (R.map rowD)), x3, x4, x5, some (.lst (S.map fun r => wD r.k)), some (tbD S)]
theorem gram_loop {top : List Nat} {R : List GR} (hd : (R.map (·.k)).Nodup) (hl : R.length ≤ 10) (hi : ∀ r ∈ R, r.inn.length ≤ 10) : Ss (forF (dIt itemsL (dVar 2)) (tgT 3 (tgCons (tgN 3) (tgCons (tgN 4) (tgCons (tgN 5) tgNil)))) Lp_Grammar_init_1 (GI top R [] none none none)) (fun r => ∃ x3 x4 x5, r = GI top R R x3 x4 x5) (fun _ => False) (fun _ => False) (fun _ => False) nE' := by
  refine ss_for (fun i r => ∃ x3 x4 x5, r = GI top R (R.take i) x3 x4 x5) (rs_it (rs_var rfl (rs_itsL ⟨⟨none, none, none, rfl⟩, fun i d s hi hs => ?_, fun s hs => ?_⟩)))
  · obtain ⟨x3, x4, x5, rfl⟩ := hs
    rw [List.getElem?_map] at hi
    cases hx : R[i]? with
    | none => rw [hx] at hi; cases hi
    | some x =>
      rw [hx] at hi
      cases hi
      refine ⟨GI top R (R.take i) (some (wD x.k)) (some (wD x.ro)) (some (.tup (x.inn.map wD))), rfl, ?_⟩
      have hnew := take_nd hd hx
      have hlen : (R.take i).length ≤ 10 := by rw [List.length_take]; omega
      rw [take_snoc hx]
      generalize R.take i = S at hnew hlen
      unfold Lp_Grammar_init_1
      refine ss_seq (ss_if (rs_T (rs_op (rs_var (d := wD x.k) rfl (rs_jf (d := tbD S) rfl rfl (rs_inR (rs_asB ⟨fun z => ?_, fun _ => ss_nx ?_⟩)))))))
      · rw [fdR_none.mpr hnew] at z; cases z
      refine ss_seq (ss_putJ rfl ?_)
      refine ss_lift (rs_tup (rs_cons (rs_var (d := wD x.ro) rfl (rs_cons (rs_call (rs_cons (rs_var (d := .tup (x.inn.map wD)) rfl (rs_nil (rs_tupT (rs_nil ⟨Nat.le_of_ble_eq_true rfl, ?_⟩))))))))))
      refine ss_lift (Rs.of (a := (tks S, tvs S)) rfl (ss_lift (rs_var (d := wD x.k) rfl (ss_lift (Rs.of (a := (Sum.inr (Sg x.k) : Key)) rfl ?_)))))
      rw [guardS_pos (Nat.lt_of_lt_of_le (show (tks S).length < 100000 by unfold tks; rw [List.length_map]; omega) sz5)]
      have hput := put_new (R := S) (r := x) hnew
      have e : (GI top R S (some (wD x.k)) (some (wD x.ro)) (some (.tup (x.inn.map wD)))).set 7 (some (D.dk (putV (tks S) (tvs S) (Sum.inr (Sg x.k)) (valR x)).1 (putV (tks S) (tvs S) (Sum.inr (Sg x.k)) (valR x)).2)) = [some (.obj "Grammar" [] []), some (wD top), some (.lst (R.map rowD)), some (wD x.k), some (wD x.ro), some (.tup (x.inn.map wD)), some (.lst (S.map fun r => wD r.k)), some (tbD (S ++ [x]))] := by
        rw [hput]
        rfl
      show Ss (appJF 0 6 "Grammar" (dVar 3) ((GI top R S (some (wD x.k)) (some (wD x.ro)) (some (.tup (x.inn.map wD)))).set 7 (some (D.dk (putV (tks S) (tvs S) (Sum.inr (Sg x.k)) (valR x)).1 (putV (tks S) (tvs S) (Sum.inr (Sg x.k)) (valR x)).2)))) _ _ _ _ _
      rw [e]
      refine ss_appJ rfl (ss_app (ds := S.map fun r => wD r.k) rfl (rs_var (d := wD x.k) rfl ⟨Nat.lt_of_lt_of_le (show _ < 100000 by rw [List.length_map]; omega) sz5, some (wD x.k), some (wD x.ro), some (.tup (x.inn.map wD)), ?_⟩))
      unfold GI
      rw [List.map_append]
      rfl
  · obtain ⟨x3, x4, x5, rfl⟩ := hs
    rw [List.length_map, List.take_length]
    exact ⟨x3, x4, x5, rfl⟩
theorem gram_eq {top : List Nat} {R : List GR} (ok : GrOk top R) : F_Grammar_init [wD top, .lst (R.map rowD)] = .ok (grD top R) := Rs.eq (by
  have ok0 := ok
  obtain ⟨hd, ⟨rt, hrt, rfl, hroot⟩, hl, hok⟩ := ok
  refine rs_runI ?_
  unfold Fb_Grammar_init
  show Ss (seqF _ _ [some (.obj "Grammar" [] []), some (wD rt.k), some (.lst (R.map rowD)), none, none, none, none, none]) _ _ _ _ _
  refine ss_seq (ss_fst (ns := []) (vs := []) (rs_var (d := wD rt.k) rfl ⟨rfl, by decide, ?_⟩))
  obtain ⟨r', e1, x3, x4, x5, rfl⟩ := ss_nxE (gram_loop (top := rt.k) hd hl fun r hr => (hok r hr).2.1)
  refine ss_gram (d0 := wD rt.k) rfl (by show 6 < 8; omega) (by show 7 < 8; omega) e1 ⟨_, rfl⟩ rfl rfl ?_
  have hf := fdR_mem hd hrt
  show Ss (seqF _ _ [some (grD rt.k R), some (wD rt.k), some (.lst (R.map rowD)), x3, x4, x5, none, none]) _ _ _ _ _
  have fld : ∀ {x3 : Option D} {Q : D → Prop} {E : Str → List Str → List D → Prop}, Q (tbD R) → Rs (dUn (fldD "Grammar" "entries") (dVar 0) [some (grD rt.k R), some (wD rt.k), some (.lst (R.map rowD)), x3, x4, x5, none, none]) Q E := fun q => rs_un (rs_var (d := grD rt.k R) rfl (rs_fld (d := tbD R) rfl q))
  refine ss_seq (ss_if (rs_T (rs_op (rs_var (d := wD rt.k) rfl (fld (rs_inR (rs_asB ⟨fun z => ?_, fun _ => ss_nx ?_⟩)))))))
  · rw [hf] at z; cases z
  refine ss_seq (ss_if (rs_T (rs_op (rs_op (rs_op (fld (rs_var (d := wD rt.k) rfl (rs_getR hf (rs_c (rs_ixT (d := wD rt.ro) (atI_nat (j := 0) rfl) (rs_c (rs_neS (rs_asB ⟨fun z => ?_, fun _ => ss_nx ?_⟩)))))))))))))
  · rw [decide_eq_true hroot] at z; cases z
  refine ss_each (fun r : GR => wD r.k) R (fun i s => ∃ x3, s = [some (grD rt.k R), some (wD rt.k), some (.lst (R.map rowD)), x3, x4, x5, none, none]) (rs_un (rs_var (d := grD rt.k R) rfl (rs_fld (d := .lst (R.map fun r => wD r.k)) rfl rfl))) ⟨x3, rfl⟩ ?_ ?_
  · rintro i r s hi ⟨x3, rfl⟩
    exact ss_drop (rs_meth (rs_var (d := grD rt.k R) rfl (rs_isObj (by decide) (rs_cons (rs_var (d := wD r.k) rfl (rs_nil (Rs.of (inner_eq ok0 (List.mem_of_getElem? hi)) ⟨some (wD r.k), rfl⟩)))))))
  · rintro s ⟨x3, rfl⟩
    exact ⟨_, rfl, rfl⟩)
def nodeAt : Tr → List Nat → Option Tr
  | t, [] => some t
  | .tx _, _ :: _ => none
  | .el _ _ ks, i :: p => match ks[i]? with
    | some u => nodeAt u p
    | none => none
theorem nodeAt_nil (t : Tr) : nodeAt t [] = some t := by cases t <;> rfl
theorem nodeAt_app : ∀ (p q : List Nat) (t : Tr), nodeAt t (p ++ q) = (nodeAt t p).bind fun u => nodeAt u q
  | [], q, t => by rw [nodeAt_nil]; rfl
  | i :: p, q, .tx l => rfl
  | i :: p, q, .el k m ks => by
    show nodeAt (.el k m ks) (i :: (p ++ q)) = _
    show (match ks[i]? with | some u => nodeAt u (p ++ q) | none => none) = (match ks[i]? with | some u => nodeAt u p | none => none).bind fun u => nodeAt u q
    cases ks[i]? with
    | none => rfl
    | some u => exact nodeAt_app p q u
def plD (p : List Nat) : D := .tup (p.map fun (n : Nat) => D.int (n : Int))
theorem node_eq {t u : Tr} {p : List Nat} (h : nodeAt t p = some u) : F_node_at [tD t, plD p] = .ok (tD u) := Rs.eq (by
  refine rs_run ?_
  unfold Fb_node_at
  refine ss_seq (ss_set (rs_var (d := tD t) rfl ?_))
  refine ss_seq (ss_for (fun i s => ∃ v x3, nodeAt t (p.take i) = some v ∧ s = [some (tD t), some (plD p), some (tD v), x3]) (rs_it (rs_var (d := plD p) rfl (rs_itsT ⟨⟨t, none, nodeAt_nil t, rfl⟩, fun i d s hi hs => ?_, fun s hs => ?_⟩))))
  · obtain ⟨v, x3, hv, rfl⟩ := hs
    rw [List.getElem?_map] at hi
    cases hx : p[i]? with
    | none => rw [hx] at hi; cases hi
    | some n =>
      rw [hx] at hi
      cases hi
      have hsome : ∃ w, nodeAt t (p.take (i + 1)) = some w := by
        rw [← List.take_append_drop (i + 1) p, nodeAt_app] at h
        cases e : nodeAt t (p.take (i + 1)) with
        | none => rw [e] at h; cases h
        | some w => exact ⟨w, rfl⟩
      obtain ⟨w, hw⟩ := hsome
      have hw2 := hw
      rw [take_snoc hx, nodeAt_app, hv] at hw2
      refine ⟨[some (tD t), some (plD p), some (tD v), some (.int (n : Int))], rfl, ?_⟩
      cases v with
      | tx l => cases hw2
      | el k m ks =>
        have hw2 : (match ks[n]? with | some u => nodeAt u [] | none => none) = some w := hw2
        cases hk : ks[n]? with
        | none => rw [hk] at hw2; cases hw2
        | some u =>
          rw [hk] at hw2
          have hw2 : nodeAt u [] = some w := hw2
          rw [nodeAt_nil] at hw2
          cases hw2
          have hlt : n < ks.length := (List.getElem?_eq_some_iff.mp hk).1
          have hat : atI (ks.map tD) (n : Int) = some (tD w) := atI_nat (by rw [List.getElem?_map, hk]; rfl)
          unfold Lp_node_at_1
          rw [tD_el]
          refine ss_seq (ss_if (rs_or (rs_T (rs_un (rs_var rfl (rs_isi_tup_str (rs_asB (rs_not (rs_T (rs_chain (rs_c (rs_var (d := .int (n : Int)) rfl (rs_le (rs_asB (rs_call (rs_cons (rs_op (rs_var rfl (rs_c (rs_ixT (d := .tup (ks.map tD)) (atI_nat (j := 2) rfl) (rs_nil (rs_lenT (rs_lt (rs_asB (rs_asB ⟨fun z => ?_, fun z => ss_nx ?_⟩)))))))))))))))))))))))))
          · exfalso
            rw [List.length_map] at z
            simp at z
            omega
          · exact ss_set (rs_op (rs_op (rs_var rfl (rs_c (rs_ixT (d := .tup (ks.map tD)) (atI_nat (j := 2) rfl) (rs_var (d := .int (n : Int)) rfl (rs_ixT hat ⟨w, some (.int (n : Int)), hw, rfl⟩)))))))
  · obtain ⟨v, x3, hv, rfl⟩ := hs
    rw [List.length_map, List.take_length, h] at hv
    cases hv
    exact ss_ret (rs_var (d := tD u) rfl rfl))
end
section
structure Nd where
  p : List Nat
  t : Tr
  a : List Nat
mutual
def nP (p a : List Nat) : Tr → List Nd
  | .tx l => [⟨p, .tx l, a⟩]
  | .el k m ks => ⟨p, .el k m ks, a⟩ :: nPs p k 0 ks
def nPs (p k : List Nat) (i : Nat) : List Tr → List Nd
  | [] => []
  | t :: ts => nP (p ++ [i]) k t ++ nPs p k (i + 1) ts
end
theorem nP_tx (p a l : List Nat) : nP p a (.tx l) = [⟨p, .tx l, a⟩] := by rw [nP]
theorem nP_el (p a k m : List Nat) (ks : List Tr) : nP p a (.el k m ks) = ⟨p, .el k m ks, a⟩ :: nPs p k 0 ks := by rw [nP]
theorem nPs_nil (p k : List Nat) (i : Nat) : nPs p k i [] = [] := by rw [nPs]
theorem nPs_cons (p k : List Nat) (i : Nat) (t : Tr) (ts : List Tr) : nPs p k i (t :: ts) = nP (p ++ [i]) k t ++ nPs p k (i + 1) ts := by rw [nPs]
def kidsN (p k : List Nat) (i : Nat) : List Tr → List Nd
  | [] => []
  | t :: ts => ⟨p ++ [i], t, k⟩ :: kidsN p k (i + 1) ts
theorem kids_get (p k : List Nat) : ∀ (ks : List Tr) (i j : Nat), (kidsN p k i ks)[j]? = (ks[j]?).map fun t => (⟨p ++ [i + j], t, k⟩ : Nd)
  | [], i, j => by unfold kidsN; simp
  | t :: ts, i, 0 => rfl
  | t :: ts, i, j + 1 => by
    unfold kidsN
    rw [List.getElem?_cons_succ, List.getElem?_cons_succ, kids_get p k ts (i + 1) j, show i + 1 + j = i + (j + 1) by omega]
theorem kids_len (p k : List Nat) : ∀ (ks : List Tr) (i : Nat), (kidsN p k i ks).length = ks.length
  | [], i => rfl
  | t :: ts, i => by unfold kidsN; rw [List.length_cons, List.length_cons, kids_len p k ts]
theorem kids_sz (p k : List Nat) : ∀ (ks : List Tr) (i : Nat), ((kidsN p k i ks).map fun x => sz x.t).sum = szs ks
  | [], i => by unfold kidsN; rw [szs]; rfl
  | t :: ts, i => by unfold kidsN; rw [szs, List.map_cons, List.sum_cons, kids_sz p k ts]
theorem kids_mem (p k : List Nat) : ∀ (ks : List Tr) (i : Nat) (x : Nd), x ∈ kidsN p k i ks → x.p.length = p.length + 1 ∧ x.p ≠ [] ∧ x.a = k ∧ sz x.t ≤ szs ks
  | [], i, x, h => by cases h
  | t :: ts, i, x, h => by
    unfold kidsN at h
    rw [szs]
    rcases List.mem_cons.mp h with rfl | h
    · exact ⟨by simp, by simp, rfl, by show sz t ≤ _; omega⟩
    · obtain ⟨h1, h2, h3, h4⟩ := kids_mem p k ts (i + 1) x h
      exact ⟨h1, h2, h3, by omega⟩
theorem nPs_kids (p k : List Nat) : ∀ (ks : List Tr) (i : Nat), nPs p k i ks = (kidsN p k i ks).flatMap fun x => nP x.p x.a x.t
  | [], i => by rw [nPs_nil]; rfl
  | t :: ts, i => by rw [nPs_cons, nPs_kids p k ts, show kidsN p k i (t :: ts) = ⟨p ++ [i], t, k⟩ :: kidsN p k (i + 1) ts from rfl, List.flatMap_cons]
def outN (S : List Nd) : List Nd := S.reverse.flatMap fun x => nP x.p x.a x.t
def szN (S : List Nd) : Nat := (S.map fun x => sz x.t).sum
theorem outN_tx (S : List Nd) (p l a : List Nat) : outN (S ++ [⟨p, .tx l, a⟩]) = ⟨p, .tx l, a⟩ :: outN S := by
  unfold outN
  rw [List.reverse_append, List.reverse_singleton, List.singleton_append, List.flatMap_cons, nP_tx]
  rfl
theorem outN_el (S : List Nd) (p k m a : List Nat) (ks : List Tr) : outN (S ++ [⟨p, .el k m ks, a⟩]) = ⟨p, .el k m ks, a⟩ :: outN (S ++ (kidsN p k 0 ks).reverse) := by
  unfold outN
  rw [List.reverse_append, List.reverse_singleton, List.singleton_append, List.flatMap_cons, nP_el, List.reverse_append, List.reverse_reverse, List.flatMap_append, ← nPs_kids]
  rfl
theorem szN_app (S U : List Nd) : szN (S ++ U) = szN S + szN U := by unfold szN; rw [List.map_append, List.sum_append]
theorem szN_rev (S : List Nd) : szN S.reverse = szN S := by unfold szN; rw [List.map_reverse, List.sum_reverse]
theorem szN_one (x : Nd) : szN [x] = sz x.t := by unfold szN; simp
theorem szN_len (S : List Nd) : S.length ≤ szN S := by
  induction S with
  | nil => exact Nat.zero_le _
  | cons x S ih =>
    unfold szN at ih ⊢
    rw [List.map_cons, List.sum_cons, List.length_cons]
    have := sz_pos x.t
    omega
/-- the stack is small -/
def BdN (S : List Nd) : Prop := szN S ≤ 1000 ∧ ∀ x ∈ S, x.p.length + sz x.t ≤ 1000
theorem BdN.pop {S : List Nd} {x : Nd} (h : BdN (S ++ [x])) : BdN S := ⟨by have := h.1; rw [szN_app] at this; omega, fun y hy => h.2 y (List.mem_append_left _ hy)⟩
theorem BdN.kids {S : List Nd} {p k m a : List Nat} {ks : List Tr} (h : BdN (S ++ [⟨p, .el k m ks, a⟩])) : BdN (S ++ (kidsN p k 0 ks).reverse) ∧ szN (S ++ (kidsN p k 0 ks).reverse) < szN (S ++ [⟨p, .el k m ks, a⟩]) := by
  have e : szN (S ++ (kidsN p k 0 ks).reverse) = szN S + szs ks := by
    rw [szN_app, szN_rev]
    unfold szN
    rw [kids_sz]
  have e2 : szN (S ++ [⟨p, .el k m ks, a⟩]) = szN S + (1 + szs ks) := by rw [szN_app, szN_one]; show _ + sz (.el k m ks) = _; rw [sz_el]
  have h1 := h.1
  refine ⟨⟨by omega, fun x hx => ?_⟩, by omega⟩
  rcases List.mem_append.mp hx with hx | hx
  · exact h.2 x (List.mem_append_left _ hx)
  · obtain ⟨q1, _, _, q4⟩ := kids_mem p k ks 0 x (List.mem_reverse.mp hx)
    have := h.2 ⟨p, .el k m ks, a⟩ (List.mem_append_right _ (List.mem_singleton.mpr rfl))
    rw [sz_el] at this
    have : p.length + (1 + szs ks) ≤ 1000 := this
    omega
theorem drop_rev {α : Type} {l : List α} {n i : Nat} {x : α} (hl : l.length = n) (hi : i < n) (h : l[n - 1 - i]? = some x) : (l.drop (n - (i + 1))).reverse = (l.drop (n - i)).reverse ++ [x] := by
  have hx := (List.getElem?_eq_some_iff.mp h)
  rw [show n - (i + 1) = n - 1 - i by omega, List.drop_eq_getElem_cons hx.1, List.reverse_cons, hx.2, show n - 1 - i + 1 = n - i by omega]
mutual
theorem nP_par (p a : List Nat) : ∀ (t : Tr) (i : Nat) (x : Nd), (nP p a t)[i]? = some x → (i = 0 ∧ x = ⟨p, t, a⟩) ∨ ∃ j y, j < i ∧ (nP p a t)[j]? = some y ∧ y.p = x.p.dropLast ∧ x.p ≠ [] ∧ ∃ m ks, y.t = .el x.a m ks
  | .tx l, i, x, h => by
    rw [nP_tx] at h
    cases i with
    | zero => cases h; exact .inl ⟨rfl, rfl⟩
    | succ i => simp at h
  | .el k m ks, i, x, h => by
    rw [nP_el] at h ⊢
    cases i with
    | zero => cases h; exact .inl ⟨rfl, rfl⟩
    | succ i =>
      rw [List.getElem?_cons_succ] at h
      right
      rcases nPs_par p k ks 0 i x h with ⟨h1, i', h2⟩ | ⟨j, y, h1, h2, h3⟩
      · exact ⟨0, _, Nat.succ_pos _, rfl, by rw [h2]; simp, by rw [h2]; simp, m, ks, by rw [h1]⟩
      · exact ⟨j + 1, y, Nat.succ_lt_succ h1, by rw [List.getElem?_cons_succ]; exact h2, h3⟩
theorem nPs_par (p k : List Nat) : ∀ (ks : List Tr) (n i : Nat) (x : Nd), (nPs p k n ks)[i]? = some x → (x.a = k ∧ ∃ i', x.p = p ++ [i']) ∨ ∃ j y, j < i ∧ (nPs p k n ks)[j]? = some y ∧ y.p = x.p.dropLast ∧ x.p ≠ [] ∧ ∃ m ks, y.t = .el x.a m ks
  | [], n, i, x, h => by rw [nPs_nil] at h; cases h
  | t :: ts, n, i, x, h => by
    rw [nPs_cons] at h ⊢
    by_cases hi : i < (nP (p ++ [n]) k t).length
    · rw [List.getElem?_append_left hi] at h
      rcases nP_par (p ++ [n]) k t i x h with ⟨_, rfl⟩ | ⟨j, y, h1, h2, h3⟩
      · exact .inl ⟨rfl, n, rfl⟩
      · exact .inr ⟨j, y, h1, by rw [List.getElem?_append_left (by omega)]; exact h2, h3⟩
    · rw [List.getElem?_append_right (by omega)] at h
      rcases nPs_par p k ts (n + 1) _ x h with h1 | ⟨j, y, h1, h2, h3⟩
      · exact .inl h1
      · exact .inr ⟨(nP (p ++ [n]) k t).length + j, y, by omega, by rw [List.getElem?_append_right (by omega), Nat.add_sub_cancel_left]; exact h2, h3⟩
end
mutual
theorem nP_at (p a : List Nat) : ∀ (t : Tr) (x : Nd), x ∈ nP p a t → ∃ q, x.p = p ++ q ∧ nodeAt t q = some x.t
  | .tx l, x, h => by
    rw [nP_tx] at h
    rw [List.mem_singleton.mp h]
    exact ⟨[], by simp, rfl⟩
  | .el k m ks, x, h => by
    rw [nP_el] at h
    rcases List.mem_cons.mp h with rfl | h
    · exact ⟨[], by simp, rfl⟩
    · obtain ⟨j, q, u, h1, h2, h3⟩ := nPs_at p k ks 0 x h
      refine ⟨j :: q, by rw [h2, Nat.zero_add], ?_⟩
      show (match ks[j]? with | some u => nodeAt u q | none => none) = _
      rw [h1]
      exact h3
theorem nPs_at (p k : List Nat) : ∀ (ks : List Tr) (n : Nat) (x : Nd), x ∈ nPs p k n ks → ∃ j q u, ks[j]? = some u ∧ x.p = p ++ (n + j) :: q ∧ nodeAt u q = some x.t
  | [], n, x, h => by rw [nPs_nil] at h; cases h
  | t :: ts, n, x, h => by
    rw [nPs_cons] at h
    rcases List.mem_append.mp h with h | h
    · obtain ⟨q, h1, h2⟩ := nP_at (p ++ [n]) k t x h
      exact ⟨0, q, t, rfl, by rw [h1, List.append_assoc]; rfl, h2⟩
    · obtain ⟨j, q, u, h1, h2, h3⟩ := nPs_at p k ts (n + 1) x h
      exact ⟨j + 1, q, u, h1, by rw [h2, show n + 1 + j = n + (j + 1) by omega], h3⟩
end
/-- may it stand there -/
def kdT : Tr → List Nat
  | .tx l => l
  | .el k _ _ => k
def gdB (top : List Nat) (R : List GR) (x : Nd) : Bool := match x.p with
  | [] => decide (kdT x.t = top)
  | _ :: _ => match fdR R x.a with
    | none => false
    | some r => match x.t with
      | .tx _ => decide (r.ro ∈ TXR)
      | .el k _ _ => decide (k ∈ r.inn)
theorem gd_kid {top : List Nat} {R : List GR} (ok : GrOk top R) {p k m a : List Nat} {ks : List Tr} (h : gdB top R ⟨p, .el k m ks, a⟩ = true) : ∃ r, fdR R k = some r := by
  obtain ⟨hd, ⟨rt, hrt, hk, _⟩, _, hok⟩ := ok
  cases p with
  | nil =>
    have h : k = top := of_decide_eq_true h
    rw [h, ← hk]
    exact ⟨rt, fdR_mem hd hrt⟩
  | cons i p =>
    have h : (match fdR R a with | none => false | some r => decide (k ∈ r.inn)) = true := h
    cases hr : fdR R a with
    | none => rw [hr] at h; cases h
    | some r =>
      rw [hr] at h
      obtain ⟨r', hr', rfl, _⟩ := (hok r (fdR_some hr).1).2.2 k (of_decide_eq_true h)
      exact ⟨r', fdR_mem hd hr'⟩
end
section
def Gs (x : List D × SR) (N : List D → Rho → Prop) : Prop := match x with
  | (ys, .nx r) => N ys r
  | _ => False
theorem Gs.imp {x : List D × SR} {N N' : List D → Rho → Prop} (h : Gs x N) (k : ∀ ys r, N ys r → N' ys r) : Gs x N' := by
  obtain ⟨ys, o⟩ := x
  cases o with
  | nx r => exact k _ _ h
  | _ => exact h.elim
theorem gs_seq2 {F K : Rho → List D × SR} {r : Rho} {N : List D → Rho → Prop} (h : Gs (F r) fun ys r' => Gs (K r') fun zs r'' => N (ys ++ zs) r'') : Gs (seqG F K r) N := by
  unfold seqG
  cases e : F r with
  | mk ys o =>
    rw [e] at h
    cases o with
    | nx r' =>
      have h : Gs (K r') fun zs r'' => N (ys ++ zs) r'' := h
      dsimp only
      cases e2 : K r' with
      | mk zs o2 =>
        rw [e2] at h
        cases o2 with
        | nx r'' => exact h
        | _ => exact h.elim
    | _ => exact h.elim
theorem gs_leaf2 {F : Rho → SR} {r : Rho} {N : List D → Rho → Prop} (h : Ss (F r) (N []) (fun _ => False) (fun _ => False) (fun _ => False) nE') : Gs (leafG F r) N := by
  unfold leafG
  cases e : F r with
  | nx r' => rw [e] at h; exact h
  | _ => rw [e] at h; exact h.elim
theorem gs_nil2 {r : Rho} {N : List D → Rho → Prop} (h : N [] r) : Gs (nilG r) N := h
theorem gs_yield2 {G : List Ow} {f : Rho → Res D} {r : Rho} {N : List D → Rho → Prop} (h : Rs (f r) (fun d => ownsOk G r = true ∧ N [d] r) nE) : Gs (yieldG G f r) N := by
  obtain ⟨d, e, h1, h2⟩ := h.get
  unfold yieldG liftG
  rw [e]
  dsimp only
  rw [if_pos h1]
  exact h2
theorem gs_while2 {t : Rho → Res Bool} {F : Rho → List D × SR} {N : Rho → Prop} (I : Nat → List D → Rho → Prop) (hs : ∀ k ys r, I k ys r → Rs (t r) (fun b => (b = true → Gs (F r) fun zs r' => ∃ k' ys', k' < k ∧ ys = zs ++ ys' ∧ I k' ys' r') ∧ (b = false → ys = [] ∧ N r)) nE) : ∀ (n k : Nat) (ys : List D) (r : Rho), k < n → I k ys r → Gs (whileG t F n r) fun zs r' => zs = ys ∧ N r'
  | 0, k, _, _, h, _ => by omega
  | n + 1, k, ys, r, hk, hi => by
    obtain ⟨b, e, h1, h2⟩ := (hs k ys r hi).get
    unfold whileG liftG
    rw [e]
    dsimp only
    cases b with
    | true =>
      rw [if_pos rfl]
      have h1 := h1 rfl
      cases eF : F r with
      | mk zs o =>
        rw [eF] at h1
        cases o with
        | nx r' =>
          obtain ⟨k', ys', q1, q2, q3⟩ := h1
          have ih := gs_while2 I hs n k' ys' r' (by omega) q3
          dsimp only
          cases eW : whileG t F n r' with
          | mk ws o2 =>
            rw [eW] at ih
            cases o2 with
            | nx r'' =>
              obtain ⟨i1, i2⟩ := ih
              exact ⟨by rw [q2, i1], i2⟩
            | _ => exact ih.elim
        | _ => exact h1.elim
    | false =>
      rw [if_neg Bool.false_ne_true]
      obtain ⟨q1, q2⟩ := h2 rfl
      exact ⟨q1.symm, q2⟩
theorem rs_runG {n : Nat} {Fb : Rho → List D × SR} {ds : List D} {Q : List D → Prop} {E : Str → List Str → List D → Prop} (h : Gs (Fb (startR n ds)) fun ys _ => Q ys) : Rs (runGF n Fb ds) Q E := by
  unfold runGF
  cases e : Fb (startR n ds) with
  | mk ys o =>
    rw [e] at h
    cases o with
    | nx r => exact h
    | _ => exact h.elim
theorem ss_pop {i : Nat} {t : D → Rho → Res Rho} {ds : List D} {d : D} {r : Rho} {N B C : Rho → Prop} {R : D → Prop} {E : Rho → Str → List Str → List D → Prop} (h1 : r[i]? = some (some (.lst (ds ++ [d])))) (h : ∃ r', t d (r.set i (some (.lst ds))) = .ok r' ∧ N r') : Ss (popF i t r) N R B C E := by
  unfold popF
  refine ss_lift (Rs.of (a := ds ++ [d]) (by unfold ownL; rw [h1]) ?_)
  have e : (ds ++ [d])[(ds ++ [d]).length - 1]? = some d := by simp
  rw [e]
  dsimp only
  obtain ⟨r', h2, h3⟩ := h
  rw [List.dropLast_concat, h2]
  exact h3
theorem rs_rng3 {i j : Int} {Q : List D → Prop} {E : Str → List Str → List D → Prop} (h : -4611686018427387904 ≤ i ∧ i < 4611686018427387904 ∧ -4611686018427387904 ≤ j ∧ j < 4611686018427387904) (q : Q (rngDn i (i - j).toNat)) : Rs (rng3 [.int i, .int j, .int (-1)]) Q E := rs_guard h q
theorem ss_dn {m : Nat} {a : Rho → Res D} {F : Rho → SR} {r : Rho} {N B C : Rho → Prop} {R : D → Prop} {E : Rho → Str → List Str → List D → Prop} (n : Nat) (I : Nat → Rho → Prop) (ha : Rs (a r) (fun d => d = .int ((n : Int) - 1)) (E r)) (hn : n < 1000000) (h0 : I 0 r) (hs : ∀ i r, i < n → I i r → Ss (F (r.set m (some (.int ((n - 1 - i : Nat) : Int))))) (I (i + 1)) R N (I (i + 1)) E) (he : ∀ r, I n r → N r) :
    Ss (forF (dIts rng3 (dCons a (dCons (dUn negD (dC (.int 1))) (dCons (dUn negD (dC (.int 1))) dNil)))) (tgN m) F r) N R B C E := by
  have hl : (rngDn ((n : Int) - 1) (((n : Int) - 1) - (-1)).toNat).length = n := by
    unfold rngDn
    rw [List.length_map, List.length_range]
    omega
  refine ss_for I (rs_its (rs_cons (ha.impE (fun d q => ?_) fun _ _ _ z => z)))
  subst q
  refine rs_cons (rs_un (rs_c (rs_neg (rs_cons (rs_un (rs_c (rs_neg (rs_nil (rs_rng3 ⟨by omega, by omega, by omega, by omega⟩ ⟨h0, fun i d r hd hi => ?_, fun r h => he r (by rw [hl] at h; exact h)⟩)))))))))
  unfold rngDn at hd
  rw [List.getElem?_map] at hd
  obtain ⟨i', hi', rfl⟩ := Option.map_eq_some_iff.mp hd
  obtain ⟨hil, e⟩ := List.getElem?_eq_some_iff.mp hi'
  rw [List.getElem_range] at e
  subst e
  rw [List.length_range] at hil
  refine ⟨_, rfl, ?_⟩
  rw [show (n : Int) - 1 - (i : Int) = ((n - 1 - i : Nat) : Int) by omega]
  exact hs i r (by omega) hi
end
section
def nodeD (x : Nd) : D := .tup [plD x.p, tD x.t]
def NS (T : Tr) (S : List Nd) (x2 x3 x4 : Option D) : Rho := [some (tD T), some (.lst (S.map nodeD)), x2, x3, x4]
theorem pl_snoc {p : List Nat} {i : Nat} {Q : D → Prop} {E : Str → List Str → List D → Prop} (hp : p.length ≤ 1000) (q : Q (plD (p ++ [i]))) : Rs (addD (plD p) (.tup [.int (i : Int)])) Q E := by
  unfold plD
  refine rs_addT (Nat.le_trans (show _ ≤ 100000 by rw [List.length_map]; show _ + 1 ≤ _; omega) sz5) ?_
  unfold plD at q
  rw [List.map_append] at q
  exact q
theorem nodes_push {T : Tr} {S : List Nd} {p k m a : List Nat} {ks : List Tr} (x4 : Option D) (hp : p.length ≤ 1000) (hk : ks.length ≤ 1000) (hS : S.length ≤ 1000) :
    Ss (forF (dIts rng3 (dCons (dOp subD (dCall (g1 lenD) (dCons (dOp ixD (dVar 3) (dC (.int 2))) dNil)) (dC (.int 1))) (dCons (dUn negD (dC (.int 1))) (dCons (dUn negD (dC (.int 1))) dNil)))) (tgN 4) Lp_all_nodes_1 (NS T S (some (plD p)) (some (tD (.el k m ks))) x4)) (fun r => ∃ x4, r = NS T (S ++ (kidsN p a 0 ks).reverse) (some (plD p)) (some (tD (.el k m ks))) x4) (fun _ => False) (fun _ => False) (fun _ => False) nE' := by
  have hkl := kids_len p a ks 0
  refine ss_dn ks.length (fun i r => ∃ x4, r = NS T (S ++ ((kidsN p a 0 ks).drop (ks.length - i)).reverse) (some (plD p)) (some (tD (.el k m ks))) x4) ?_ (by omega) ⟨x4, ?_⟩ ?_ ?_
  · refine rs_op (rs_call (rs_cons (rs_op (rs_var (d := tD (.el k m ks)) rfl (rs_c ?_)))))
    rw [tD_el]
    refine rs_ixT (d := .tup (ks.map tD)) (atI_nat (j := 2) rfl) (rs_nil (rs_lenT (rs_c (rs_sub ?_))))
    rw [List.length_map]
  · rw [Nat.sub_zero, ← hkl, List.drop_length]
    simp
  · rintro i r hi ⟨x4, rfl⟩
    have ek : ks[ks.length - 1 - i]? = some ks[ks.length - 1 - i] := List.getElem?_eq_getElem (by omega)
    generalize ks[ks.length - 1 - i] = u at ek
    have eg : (kidsN p a 0 ks)[ks.length - 1 - i]? = some ⟨p ++ [ks.length - 1 - i], u, a⟩ := by rw [kids_get, ek, Nat.zero_add]; rfl
    rw [drop_rev hkl hi eg]
    have hll : ((kidsN p a 0 ks).drop (ks.length - i)).reverse.length ≤ 1000 := by rw [List.length_reverse, List.length_drop]; omega
    generalize ((kidsN p a 0 ks).drop (ks.length - i)).reverse = U at hll
    generalize ks.length - 1 - i = j at ek
    unfold Lp_all_nodes_1
    refine ss_app (ds := (S ++ U).map nodeD) rfl (rs_tup (rs_cons (rs_op (rs_var (d := plD p) rfl (rs_tup (rs_cons (rs_var (d := .int (j : Int)) rfl (rs_nil ⟨Nat.le_of_ble_eq_true rfl, pl_snoc hp (rs_cons (rs_op (rs_op (rs_var (d := tD (.el k m ks)) rfl (rs_c ?_)))))⟩))))))))
    rw [tD_el]
    refine rs_ixT (d := .tup (ks.map tD)) (atI_nat (j := 2) rfl) (rs_var (d := .int (j : Int)) rfl (rs_ixT (d := tD u) (atI_nat (by rw [List.getElem?_map, ek]; rfl)) (rs_nil ⟨Nat.le_of_ble_eq_true rfl, Nat.lt_of_lt_of_le (show _ < 100000 by rw [List.length_map, List.length_append]; omega) sz5, some (.int (j : Int)), ?_⟩)))
    unfold NS
    rw [← List.append_assoc, List.map_append (l₁ := S ++ U), ← tD_el]
    rfl
  · rintro r ⟨x4, rfl⟩
    rw [Nat.sub_self, List.drop_zero]
    exact ⟨x4, rfl⟩
theorem nodes_eq {T : Tr} (hT : sz T ≤ 1000) : F_all_nodes [tD T] = .ok ((nP [] [] T).map nodeD) := Rs.eq (by
  refine rs_runG ?_
  unfold Fb_all_nodes
  refine gs_seq2 (gs_leaf2 (ss_set (rs_lst (rs_cons (rs_tup (rs_cons (rs_tup (rs_nil ⟨Nat.zero_le _, rs_cons (rs_var (d := tD T) rfl (rs_nil ⟨Nat.le_of_ble_eq_true rfl, rs_nil ⟨Nat.le_of_ble_eq_true rfl, ?_⟩⟩))⟩))))))))
  show Gs (seqG _ _ (NS T [⟨[], T, []⟩] none none none)) _
  refine gs_seq2 ((gs_while2 (N := fun _ => True) (fun n ys r => ∃ S x2 x3 x4, r = NS T S x2 x3 x4 ∧ n = szN S ∧ ys = (outN S).map nodeD ∧ BdN S) ?_ 100000 (szN [⟨[], T, []⟩]) ((outN [⟨[], T, []⟩]).map nodeD) _ ?_ ?_).imp ?_)
  · rintro n ys r ⟨S, x2, x3, x4, rfl, rfl, rfl, hb⟩
    refine rs_tru (rs_var (d := .lst (S.map nodeD)) rfl (rs_truL ⟨fun z => ?_, fun z => ?_⟩))
    · obtain ⟨S, ⟨p, t, a⟩, rfl⟩ := snoc_of (l := S) (fun q => by rw [q] at z; cases z)
      have hb0 := hb.pop
      have hSl := szN_len S
      have hpt := hb.2 ⟨p, t, a⟩ (List.mem_append_right _ (List.mem_singleton.mpr rfl))
      have hpl : p.length ≤ 1000 := by have : p.length + sz t ≤ 1000 := hpt; omega
      unfold Gp_all_nodes_2
      refine gs_seq2 (gs_leaf2 (ss_pop (ds := S.map nodeD) (d := nodeD ⟨p, t, a⟩) (by show some (some (D.lst ((S ++ [_]).map nodeD))) = _; rw [List.map_append]; rfl) ⟨NS T S (some (plD p)) (some (tD t)) x4, rfl, ?_⟩))
      refine gs_seq2 (gs_yield2 (rs_tup (rs_cons (rs_var (d := plD p) rfl (rs_cons (rs_var (d := tD t) rfl (rs_nil ⟨Nat.le_of_ble_eq_true rfl, rfl, ?_⟩)))))))
      refine gs_seq2 (gs_leaf2 ?_)
      cases t with
      | tx l =>
        rw [tD_tx]
        refine ss_if (rs_not (rs_T (rs_un (rs_var (d := .str (Sg l)) rfl (rs_isi_str_str (rs_asB ⟨fun z => ?_, fun _ => ss_nx (gs_nil2 ?_)⟩))))))
        · cases z
        refine ⟨szN S, (outN S).map nodeD, by rw [szN_app, szN_one]; show _ < _ + sz (.tx l); rw [sz]; omega, ?_, S, some (plD p), some (.str (Sg l)), x4, rfl, rfl, rfl, hb0⟩
        rw [outN_tx, List.map_cons]
        show nodeD ⟨p, .tx l, a⟩ :: _ = .tup [plD p, .str (Sg l)] :: _
        unfold nodeD
        rw [tD_tx]
        rfl
      | el k m ks =>
        have hks : ks.length ≤ 1000 := by
          have h1 : p.length + sz (.el k m ks) ≤ 1000 := hpt
          rw [sz_el] at h1
          have := len_szs ks
          omega
        have hS1 : S.length ≤ 1000 := by have := hb0.1; omega
        refine ss_if (rs_not (rs_T (rs_un (rs_var (d := tD (.el k m ks)) rfl ?_))))
        rw [tD_el]
        refine rs_isi_tup_str (rs_asB ⟨fun _ => ?_, fun z => ?_⟩)
        · rw [← tD_el]
          refine (nodes_push (T := T) (S := S) (a := k) (m := m) x4 hpl hks hS1).imp ?_ (fun _ z => z) (fun _ z => z) (fun _ z => z) fun _ _ _ _ z => z
          rintro _ ⟨x4, rfl⟩
          obtain ⟨q1, q2⟩ := hb.kids
          refine gs_nil2 ⟨_, _, q2, ?_, _, some (plD p), some (tD (.el k m ks)), x4, rfl, rfl, rfl, q1⟩
          rw [outN_el, List.map_cons]
          rfl
        · cases z
    · have : S = [] := by
        cases S with
        | nil => rfl
        | cons x S => cases z
      rw [this]
      exact ⟨rfl, trivial⟩
  · rw [szN_one]
    show sz T < 100000
    omega
  · exact ⟨_, none, none, none, rfl, rfl, rfl, by rw [szN_one]; exact hT, fun x hx => by rw [List.mem_singleton.mp hx]; show 0 + sz T ≤ _; omega⟩
  · rintro ys r ⟨rfl, _⟩
    refine gs_nil2 ?_
    show [] ++ (_ ++ []) = _
    rw [List.nil_append, List.append_nil]
    unfold outN
    simp)
end
section
structure Cd {α : Type} [DecidableEq α] (P : α → Prop) (f : α → D) (n : Nat) (py : α → PyData) : Prop where
  e : ∀ a, P a → toPy (f a) = some (py a)
  l : ∀ a, P a → PyData.canLay0 (py a) = true ∧ PyData.depth (py a) ≤ n
  q : ∀ a b, P a → P b → PyData.eqv (py a) (py b) = decide (a = b)
theorem beq_dec {α : Type} [DecidableEq α] (a b : α) : (a == b) = decide (a = b) := rfl
theorem cd_int : Cd (fun _ => True) D.int 0 PyData.int := ⟨fun _ _ => by simp [toPy], fun _ _ => by simp [PyData.canLay0, PyData.depth], fun a b _ _ => by simp [PyData.eqv, beq_dec]⟩
theorem cd_str : Cd (fun l => PyData.strOk (Sg l) = true) (fun l => D.str (Sg l)) 0 (fun l => PyData.str (Sg l)) := ⟨fun _ _ => by simp [toPy], fun _ h => by simp [PyData.canLay0, PyData.depth, h], fun a b _ _ => by
  simp only [PyData.eqv]
  rw [show (Sg a == Sg b) = decide (Sg a = Sg b) from by by_cases h : Sg a = Sg b <;> simp [h], ST_dec]⟩
section
variable {α β γ δ ε : Type} [DecidableEq α] [DecidableEq β] [DecidableEq γ] [DecidableEq δ] [DecidableEq ε] {P : α → Prop} {R : β → Prop} {T : γ → Prop} {U : δ → Prop} {f : α → D} {g : β → D} {h : γ → D} {k : δ → D} {n : Nat} {py : α → PyData} {pz : β → PyData} {pw : γ → PyData} {px : δ → PyData}
theorem Cd.all (c : Cd P f n py) : ∀ xs : List α, (∀ x ∈ xs, P x) → toPyL (xs.map f) = some (xs.map py) ∧ PyData.canLayAll0 (xs.map py) = true ∧ PyData.depthAll (xs.map py) ≤ n
  | [], _ => ⟨by simp [toPyL], by simp [PyData.canLayAll0], by simp [PyData.depthAll]⟩
  | x :: xs, hx => by
    obtain ⟨h1, h2, h3⟩ := c.all xs fun y hy => hx y (List.mem_cons_of_mem _ hy)
    have hp := hx x List.mem_cons_self
    refine ⟨by rw [List.map_cons, toPyL, h1, c.e x hp]; rfl, ?_, ?_⟩
    · rw [List.map_cons, PyData.canLayAll0, h2, (c.l x hp).1]; rfl
    · rw [List.map_cons, PyData.depthAll]
      exact Nat.max_le.mpr ⟨(c.l x hp).2, h3⟩
theorem Cd.eqa (c : Cd P f n py) : ∀ xs ys : List α, (∀ x ∈ xs, P x) → (∀ x ∈ ys, P x) → PyData.eqvAll (xs.map py) (ys.map py) = decide (xs = ys)
  | [], [], _, _ => by simp [PyData.eqvAll]
  | [], _ :: _, _, _ => by simp [PyData.eqvAll]
  | _ :: _, [], _, _ => by simp [PyData.eqvAll]
  | x :: xs, y :: ys, hx, hy => by
    rw [List.map_cons, List.map_cons, PyData.eqvAll, c.q x y (hx x List.mem_cons_self) (hy y List.mem_cons_self), c.eqa xs ys (fun z hz => hx z (List.mem_cons_of_mem _ hz)) fun z hz => hy z (List.mem_cons_of_mem _ hz)]
    by_cases h1 : x = y <;> by_cases h2 : xs = ys <;> simp [h1, h2]
theorem cd_lst (c : Cd P f n py) : Cd (fun xs : List α => ∀ x ∈ xs, P x) (fun xs => D.lst (xs.map f)) (n + 1) (fun xs => PyData.list (xs.map py)) := ⟨fun xs hx => by rw [toPy, (c.all xs hx).1]; rfl,
  fun xs hx => ⟨by rw [PyData.canLay0]; exact (c.all xs hx).2.1, by rw [PyData.depth]; exact Nat.succ_le_succ (c.all xs hx).2.2⟩, fun xs ys hx hy => by rw [PyData.eqv, c.eqa xs ys hx hy]⟩
theorem cd_tup (c : Cd P f n py) : Cd (fun xs : List α => ∀ x ∈ xs, P x) (fun xs => D.tup (xs.map f)) (n + 1) (fun xs => PyData.tuple (xs.map py)) := ⟨fun xs hx => by rw [toPy, (c.all xs hx).1]; rfl,
  fun xs hx => ⟨by rw [PyData.canLay0]; exact (c.all xs hx).2.1, by rw [PyData.depth]; exact Nat.succ_le_succ (c.all xs hx).2.2⟩, fun xs ys hx hy => by rw [PyData.eqv, c.eqa xs ys hx hy]⟩
theorem toPy3 {a b c : D} {p q r : PyData} (h1 : toPy a = some p) (h2 : toPy b = some q) (h3 : toPy c = some r) : toPy (.tup [a, b, c]) = some (.tuple [p, q, r]) := by
  rw [toPy, toPyL, toPyL, toPyL, toPyL, h1, h2, h3]; rfl
theorem Cd.up {m : Nat} (c : Cd P f n py) (hm : n ≤ m) : Cd P f m py := ⟨c.e, fun a ha => ⟨(c.l a ha).1, Nat.le_trans (c.l a ha).2 hm⟩, c.q⟩
theorem eq_cd (c : Cd P f n py) (hn : n ≤ 64) {a b : α} (ha : P a) (hb : P b) (hf : eqFlat (f a) (f b) = none) : eqB (f a) (f b) = .ok (decide (a = b)) := by
  have sh : ∀ a, P a → SeqAt.shaped (py a) = true := fun a ha => by
    obtain ⟨h1, h2⟩ := c.l a ha
    unfold SeqAt.shaped
    rw [h1, decide_eq_true (by omega)]
    rfl
  unfold eqB
  rw [hf]
  dsimp only
  unfold eqDeep
  rw [c.e a ha, c.e b hb]
  dsimp only
  rw [if_pos ⟨sh a ha, sh b hb⟩, c.q a b ha hb]
theorem rs_eqC {Q : D → Prop} {E : Str → List Str → List D → Prop} (c : Cd P f n py) (hn : n ≤ 64) {a b : α} (ha : P a) (hb : P b) (hf : eqFlat (f a) (f b) = none) (q : Q (.bl (decide (a = b)))) : Rs (eqD (f a) (f b)) Q E := by
  unfold eqD
  rw [eq_cd c hn ha hb hf]
  exact q
theorem rs_neC {Q : D → Prop} {E : Str → List Str → List D → Prop} (c : Cd P f n py) (hn : n ≤ 64) {a b : α} (ha : P a) (hb : P b) (hf : eqFlat (f a) (f b) = none) (q : Q (.bl (!decide (a = b)))) : Rs (neD (f a) (f b)) Q E := by
  unfold neD
  rw [eq_cd c hn ha hb hf]
  exact q
end
end
section
theorem rs_eqPl0 {p : List Nat} {Q : D → Prop} {E : Str → List Str → List D → Prop} (q : Q (.bl (decide (p = [])))) : Rs (eqD (plD p) (.tup [])) Q E := by
  have e : plD p = .tup ((p.map fun (n : Nat) => (n : Int)).map D.int) := by unfold plD; rw [List.map_map]; rfl
  rw [e]
  refine rs_eqC (f := fun xs : List Int => D.tup (xs.map D.int)) (b := []) (cd_tup cd_int) (by decide) (fun _ _ => trivial) (fun _ _ => trivial) rfl ?_
  have : decide ((p.map fun (n : Nat) => (n : Int)) = []) = decide (p = []) := by cases p <;> simp
  rw [this]
  exact q
def fbN (top : List Nat) (R : List GR) (L : List Nd) : Option Nd := L.find? fun x => !gdB top R x
theorem gdB_r (top : List Nat) (R : List GR) (p a : List Nat) (t : Tr) (hp : p = []) : gdB top R ⟨p, t, a⟩ = decide (kdT t = top) := by subst hp; rfl
theorem gdB_t (top : List Nat) (R : List GR) (p a l : List Nat) (hp : p ≠ []) {r : GR} (h : fdR R a = some r) : gdB top R ⟨p, .tx l, a⟩ = decide (r.ro ∈ TXR) := by
  cases p with
  | nil => exact absurd rfl hp
  | cons i p =>
    show (match fdR R a with | none => false | some r => decide (r.ro ∈ TXR)) = _
    rw [h]
theorem gdB_e (top : List Nat) (R : List GR) (p a k m : List Nat) (ks : List Tr) (hp : p ≠ []) {r : GR} (h : fdR R a = some r) : gdB top R ⟨p, .el k m ks, a⟩ = decide (k ∈ r.inn) := by
  cases p with
  | nil => exact absurd rfl hp
  | cons i p =>
    show (match fdR R a with | none => false | some r => decide (k ∈ r.inn)) = _
    rw [h]
end
section
theorem cut_init {α : Type} (q : List α) (x : α) : cutL (q ++ [x]) none (some (-1)) = q := by
  rw [show (-1 : Int) = -((1 : Nat) : Int) from rfl, cut_back _ 1 (by omega), List.length_append]
  simp
theorem stand_eq {T : Tr} {top : List Nat} {R : List GR} (ok : GrOk top R) {p a : List Nat} {t : Tr} (h : (p = [] ∧ isTx t = false) ∨ (p ≠ [] ∧ (∃ m ks, nodeAt T p.dropLast = some (.el a m ks)) ∧ ∃ r, fdR R a = some r)) : F_Grammar_may_stand [grD top R, tD T, plD p, tD t] = .ok (.bl (gdB top R ⟨p, t, a⟩)) := Rs.eq (by
  refine rs_run ?_
  unfold Fb_Grammar_may_stand
  refine ss_seq (ss_if (rs_T (rs_op (rs_var (d := plD p) rfl (rs_tup (rs_nil ⟨Nat.zero_le _, rs_eqPl0 (rs_asB ⟨fun z => ?_, fun z => ss_nx ?_⟩)⟩))))))
  · have zp := of_decide_eq_true z
    rcases h with ⟨_, h2⟩ | ⟨h1, _⟩
    · cases t with
      | tx l => cases h2
      | el k m ks =>
        refine ss_ret (rs_op (rs_op (rs_var (d := tD (.el k m ks)) rfl (rs_c ?_))))
        rw [tD_el]
        refine rs_ixT (d := wD k) (atI_nat (j := 0) rfl) (rs_un (rs_var (d := grD top R) rfl (rs_fld (d := wD top) rfl (rs_eqS ?_))))
        rw [gdB_r _ _ _ _ _ zp]
        rfl
    · exact absurd zp h1
  · have zp := of_decide_eq_false z
    rcases h with ⟨h1, _⟩ | ⟨_, ⟨m, ks, hn⟩, r, hr⟩
    · exact absurd h1 zp
    · obtain ⟨q, i, rfl⟩ := snoc_of zp
      rw [List.dropLast_concat] at hn
      refine ss_seq (ss_asg (rs_op (rs_un (rs_var (d := grD top R) rfl (rs_fld (d := tbD R) rfl (rs_op (rs_call (rs_cons (rs_var (d := tD T) rfl (rs_cons (rs_sl (rs_var (d := plD (q ++ [i])) rfl (rs_noP (rs_part (rs_un (rs_c (rs_neg (rs_asI (rs_slT (rs_nil ?_))))))))))))))))))))
      rw [List.map_append, List.map_singleton, cut_init]
      refine Rs.of (node_eq hn) (rs_c ?_)
      rw [tD_el]
      refine rs_ixT (d := wD a) (atI_nat (j := 0) rfl) (rs_getR hr ⟨[some (grD top R), some (tD T), some (plD (q ++ [i])), some (tD t), some (wD r.ro), some (.tup (r.inn.map wD))], rfl, ?_⟩)
      have hro := (ok.2.2.2 r (fdR_some hr).1).1
      cases t with
      | tx l =>
        refine ss_seq (ss_if (rs_T (rs_un (rs_var (d := tD (.tx l)) rfl ?_))))
        rw [tD_tx]
        refine rs_isi_str_str (rs_asB ⟨fun _ => ?_, fun z => (by cases z)⟩)
        refine ss_ret (rs_op (rs_var (d := wD r.ro) rfl (rs_c (rs_inMd (roles_tx _ hro) ?_))))
        rw [gdB_t _ _ _ _ _ zp hr]
        rfl
      | el k m ks =>
        refine ss_seq (ss_if (rs_T (rs_un (rs_var (d := tD (.el k m ks)) rfl ?_))))
        rw [tD_el]
        refine rs_isi_tup_str (rs_asB ⟨fun z => (by cases z), fun _ => ss_nx ?_⟩)
        refine ss_ret (rs_op (rs_op (rs_var (d := .tup [wD k, wD m, .tup (ks.map tD)]) rfl (rs_c (rs_ixT (d := wD k) (atI_nat (j := 0) rfl) (rs_var (d := .tup (r.inn.map wD)) rfl (rs_inWT r.inn ?_)))))))
        rw [gdB_e _ _ _ _ _ _ _ zp hr])
theorem fb_at (top : List Nat) (R : List GR) : ∀ (L : List Nd) (i : Nat) (x : Nd), L[i]? = some x → gdB top R x = false → (∀ (j : Nat) (y : Nd), j < i → L[j]? = some y → gdB top R y = true) → fbN top R L = some x
  | [], i, x, h, _, _ => by cases h
  | y :: L, 0, x, h, hx, _ => by
    cases h
    unfold fbN
    rw [List.find?_cons, hx]
    rfl
  | y :: L, i + 1, x, h, hx, hg => by
    unfold fbN
    rw [List.find?_cons, hg 0 y (by omega) rfl]
    exact fb_at top R L i x h hx fun j z hj hz => hg (j + 1) z (by omega) hz
theorem rs_okG {its : Rho → Res (List D)} {ds : List D} {r : Rho} {Q : List D → Prop} {E : Str → List Str → List D → Prop} (h : its r = .ok ds) (q : Q ds) : Rs (okG its r) Q E := by
  unfold okG
  rw [h]
  exact q
theorem check_sp {T : Tr} {top : List Nat} {R : List GR} (ok : GrOk top R) (hT : sz T ≤ 1000) (hel : isTx T = false) : Rs (F_Grammar_check [grD top R, tD T]) (fun d => d = .non ∧ fbN top R (nP [] [] T) = none) (fun n ns vs => ∃ x, fbN top R (nP [] [] T) = some x ∧ n = "Strange" ∧ ns = (["place"] : List Str) ∧ vs = [plD x.p]) := by
  refine rs_run ?_
  unfold Fb_Grammar_check
  have hal : ∀ x ∈ nP [] [] T, nodeAt T x.p = some x.t := fun x hx => by
    obtain ⟨q, h1, h2⟩ := nP_at [] [] T x hx
    rw [h1]
    exact h2
  have hpar := nP_par [] [] T
  generalize hL : nP [] [] T = L at hal hpar
  have hits : dGen F_all_nodes (dCons (dVar 1) dNil) [some (grD top R), some (tD T), none, none] = .ok (L.map nodeD) := by
    show F_all_nodes [tD T] = _
    rw [nodes_eq hT, hL]
  refine ss_for (fun i s => (∀ (j : Nat) (y : Nd), j < i → L[j]? = some y → gdB top R y = true) ∧ ∃ x2 x3, s = [some (grD top R), some (tD T), x2, x3]) (rs_okG hits ⟨⟨fun j y hj _ => absurd hj (by omega), none, none, rfl⟩, fun i d s hi hs => ?_, fun s hs => ?_⟩)
  · obtain ⟨hg, x2, x3, rfl⟩ := hs
    rw [List.getElem?_map] at hi
    cases hx : L[i]? with
    | none => rw [hx] at hi; cases hi
    | some x =>
      rw [hx] at hi
      cases hi
      have hst : (x.p = [] ∧ isTx x.t = false) ∨ (x.p ≠ [] ∧ (∃ m ks, nodeAt T x.p.dropLast = some (.el x.a m ks)) ∧ ∃ r, fdR R x.a = some r) := by
        rcases hpar i x hx with ⟨_, h2⟩ | ⟨j, ⟨yp, yt, ya⟩, h1, h2, h3, h4, m, ks, h5⟩
        · left; rw [h2]; exact ⟨rfl, hel⟩
        · right
          have h3 : yp = x.p.dropLast := h3
          have h5 : yt = .el x.a m ks := h5
          subst h5
          refine ⟨h4, ⟨m, ks, ?_⟩, gd_kid ok (hg j _ h1 h2)⟩
          have := hal _ (List.mem_of_getElem? h2)
          rw [← h3]
          exact this
      refine ⟨[some (grD top R), some (tD T), some (plD x.p), some (tD x.t)], rfl, ?_⟩
      unfold Lp_Grammar_check_1
      refine ss_if (rs_not (rs_T (rs_meth (rs_var (d := grD top R) rfl (rs_isObj (by decide) (rs_cons (rs_var (d := tD T) rfl (rs_cons (rs_var (d := plD x.p) rfl (rs_cons (rs_var (d := tD x.t) rfl (rs_nil (Rs.of (stand_eq ok hst) (rs_asB ⟨fun z => ?_, fun z => ss_nx ?_⟩))))))))))))))
      · refine ss_raise (rs_cons (rs_var (d := plD x.p) rfl (rs_nil ⟨rfl, x, ?_, rfl, rfl, rfl⟩)))
        refine fb_at top R L i x hx ?_ hg
        revert z
        cases gdB top R ⟨x.p, x.t, x.a⟩ <;> simp
      · refine ⟨fun j y hj hy => ?_, _, _, rfl⟩
        by_cases hji : j < i
        · exact hg j y hji hy
        · have : j = i := by omega
          subst this
          rw [hx] at hy
          cases hy
          revert z
          cases gdB top R ⟨x.p, x.t, x.a⟩ <;> simp
  · obtain ⟨hg, x2, x3, rfl⟩ := hs
    refine ⟨rfl, ?_⟩
    unfold fbN
    rw [List.find?_eq_none]
    intro x hx
    obtain ⟨i, hi⟩ := List.mem_iff_getElem?.mp hx
    rw [hg i x (by rw [List.length_map]; exact (List.getElem?_eq_some_iff.mp hi).1) hi]
    simp
end
section
def sm {α : Type} (l : List α) (g : α → Nat) : Nat := (l.map g).sum
theorem sm_nil {α : Type} (g : α → Nat) : sm [] g = 0 := rfl
theorem sm_cons {α : Type} (x : α) (l : List α) (g : α → Nat) : sm (x :: l) g = g x + sm l g := by unfold sm; rw [List.map_cons, List.sum_cons]
theorem sm_app {α : Type} (l k : List α) (g : α → Nat) : sm (l ++ k) g = sm l g + sm k g := by unfold sm; rw [List.map_append, List.sum_append]
theorem sm_congr {α : Type} {g h : α → Nat} : ∀ {l : List α}, (∀ x ∈ l, g x = h x) → sm l g = sm l h
  | [], _ => rfl
  | x :: l, e => by rw [sm_cons, sm_cons, e x List.mem_cons_self, sm_congr fun y hy => e y (List.mem_cons_of_mem _ hy)]
theorem sm_const {α : Type} (n : Nat) : ∀ l : List α, sm l (fun _ => n) = l.length * n
  | [] => by rw [sm_nil, List.length_nil, Nat.zero_mul]
  | x :: l => by rw [sm_cons, sm_const n l, List.length_cons, Nat.add_mul, Nat.one_mul, Nat.add_comm]
theorem len_flat {α β : Type} (f : α → List β) : ∀ l : List α, (l.flatMap f).length = sm l fun x => (f x).length
  | [] => rfl
  | x :: l => by rw [List.flatMap_cons, List.length_append, len_flat f l, sm_cons]
theorem sm_le {α : Type} {g : α → Nat} {n : Nat} : ∀ {l : List α}, (∀ x ∈ l, g x ≤ n) → sm l g ≤ l.length * n
  | [], _ => Nat.zero_le _
  | x :: l, h => by
    rw [sm_cons, List.length_cons, Nat.add_mul, Nat.one_mul, Nat.add_comm]
    exact Nat.add_le_add (sm_le fun y hy => h y (List.mem_cons_of_mem _ hy)) (h x List.mem_cons_self)
section
variable {its : Rho → Res (List D)} {t : D → Rho → Res Rho} {F : Rho → List D × SR} {r : Rho} {N : List D → Rho → Prop}
theorem gs_loop {α : Type} (g : α → D) (out : α → List D) (I : Rho → Prop) : ∀ (xs : List α) (r : Rho), I r → (∀ x ∈ xs, ∀ r, I r → ∃ r1, t (g x) r = .ok r1 ∧ Gs (F r1) (fun ys r2 => ys = out x ∧ I r2)) → Gs (loopG t F (xs.map g) r) (fun ys r2 => ys = xs.flatMap out ∧ I r2)
  | [], r, h0, _ => ⟨rfl, h0⟩
  | x :: xs, r, h0, hs => by
    obtain ⟨r1, e1, h1⟩ := hs x List.mem_cons_self r h0
    rw [List.map_cons]
    unfold loopG
    rw [e1]
    dsimp only
    cases q : F r1 with
    | mk ys o =>
      rw [q] at h1
      cases o with
      | nx r2 =>
        obtain ⟨k1, k2⟩ := h1
        have ih := gs_loop g out I xs r2 k2 fun y hy => hs y (List.mem_cons_of_mem _ hy)
        dsimp only
        cases q2 : loopG t F (xs.map g) r2 with
        | mk zs o2 =>
          rw [q2] at ih
          cases o2 with
          | nx r3 =>
            obtain ⟨k3, k4⟩ := ih
            exact ⟨by rw [k1, k3, List.flatMap_cons], k4⟩
          | _ => exact ih.elim
      | _ => exact h1.elim
theorem gs_each {α : Type} (g : α → D) (out : α → List D) (xs : List α) (I : Rho → Prop) (h : Rs (its r) (fun ds => ds = xs.map g) nE) (h0 : I r) (hs : ∀ x ∈ xs, ∀ r, I r → ∃ r1, t (g x) r = .ok r1 ∧ Gs (F r1) (fun ys r2 => ys = out x ∧ I r2)) (hN : ∀ r, I r → N (xs.flatMap out) r) : Gs (forGG its t F r) N := by
  obtain ⟨ds, e, rfl⟩ := h.get
  unfold forGG liftG
  rw [e]
  exact (gs_loop g out I xs r h0 hs).imp fun ys r2 ⟨k1, k2⟩ => by rw [k1]; exact hN r2 k2
theorem rs_methGA {n m : Str} {ns : List Str} {vs : List D} {f1 : Rho → Res D} {F : List D → Res (List D)} {fs : Rho → Res (List D)} {Q : List D → Prop} {E : Str → List Str → List D → Prop} (h1 : Rs (f1 r) (fun x => x = .obj n ns vs) E) (hm : m ∉ ns) (h : Rs (fs r) (fun ds => Rs (F (.obj n ns vs :: ds)) Q E) E) : Rs (dMethGA n m F f1 fs r) Q E := Rs.bind (h1.impE (fun x e => by
  subst e
  exact Rs.bind (rs_isObj hm (Rs.bind h))) fun _ _ _ z => z)
end
theorem rs_lg {its : Rho → Res (List D)} {r : Rho} {Q : D → Prop} {E : Str → List Str → List D → Prop} (h : Rs (its r) (fun ds => ds.length ≤ sizeLine ∧ Q (.lst ds)) nE) : Rs (dListG its r) Q E := by
  obtain ⟨ds, e, h1, h2⟩ := h.get
  unfold dListG
  rw [e]
  dsimp only
  exact rs_guard h1 h2
theorem flat_one {α β : Type} (f : α → β) : ∀ l : List α, (l.flatMap fun s => [f s]) = l.map f
  | [] => rfl
  | x :: l => by rw [List.flatMap_cons, flat_one f l]; rfl
theorem fm_congr {α β : Type} {f g : α → List β} : ∀ {l : List α}, (∀ x ∈ l, f x = g x) → l.flatMap f = l.flatMap g
  | [], _ => rfl
  | x :: l, h => by rw [List.flatMap_cons, List.flatMap_cons, h x List.mem_cons_self, fm_congr fun y hy => h y (List.mem_cons_of_mem _ hy)]
theorem sm_le2 {α : Type} {f g : α → Nat} : ∀ {l : List α}, (∀ x ∈ l, f x ≤ g x) → sm l f ≤ sm l g
  | [], _ => Nat.le_refl _
  | x :: l, h => by
    rw [sm_cons, sm_cons]
    exact Nat.add_le_add (h x List.mem_cons_self) (sm_le2 fun y hy => h y (List.mem_cons_of_mem _ hy))
theorem fm_take {α β : Type} (f : α → List β) (l : List α) (n : Nat) : ((l.take n).flatMap f).length ≤ (l.flatMap f).length := by
  conv => rhs; rw [← List.take_append_drop n l]
  rw [List.flatMap_append, List.length_append]
  omega
section
variable (R : List GR) (M : List (List Nat))
def elF (f : List (List Nat) → Nat → List (List Tr)) (k : List Nat) (i : Nat) : List Tr := match fdR R k with
  | some r => (f r.inn i).flatMap fun ch => M.map fun m => .el k m ch
  | none => []
def hdF (f : List (List Nat) → Nat → List (List Tr)) (ks : List (List Nat)) (i : Nat) : List Tr := ks.flatMap fun k => elF R M f k i
def rwF : Nat → List (List Nat) → Nat → List (List Tr)
  | 0, _, _ => []
  | _ + 1, _, 0 => [[]]
  | g + 1, ks, n + 1 => (List.range (n + 1)).flatMap fun i => (rwF g ks (n - i)).flatMap fun rest => (hdF R M (rwF g) ks i).map (· :: rest)
variable {R M}
theorem elF_congr {f f' : List (List Nat) → Nat → List (List Tr)} {k : List Nat} {i : Nat} (h : ∀ ks, f ks i = f' ks i) : elF R M f k i = elF R M f' k i := by
  unfold elF
  cases fdR R k with
  | none => rfl
  | some r => dsimp only; rw [h]
theorem rwF_eq : ∀ (g g' : Nat) (ks : List (List Nat)) (n : Nat), n + 1 ≤ g → n + 1 ≤ g' → rwF R M g ks n = rwF R M g' ks n
  | 0, _, _, _, h, _ => by omega
  | _ + 1, 0, _, _, _, h => by omega
  | g + 1, g' + 1, ks, 0, _, _ => rfl
  | g + 1, g' + 1, ks, n + 1, h, h' => by
    rw [rwF, rwF]
    refine fm_congr fun i hi => ?_
    have hi := List.mem_range.mp hi
    rw [rwF_eq g g' ks (n - i) (by omega) (by omega)]
    have e : hdF R M (rwF R M g) ks i = hdF R M (rwF R M g') ks i := fm_congr fun k _ => elF_congr fun ks => rwF_eq g g' ks i (by omega) (by omega)
    rw [e]
structure RW (R : List GR) (M : List (List Nat)) : Prop where
  i : ∀ r ∈ R, r.inn.length ≤ 7 ∧ ∀ w ∈ r.inn, ∃ r', fdR R w = some r'
  m : M.length ≤ 3
def bN (n : Nat) : Nat := [1, 21, 882, 46305, 2722734].getD n 0
theorem bN_le : ∀ n < 5, bN n ≤ 2722734 := by decide
theorem bN_step : ∀ n < 4, (sm (List.range (n + 1)) fun i => bN (n - i) * (21 * bN i)) ≤ bN (n + 1) := by decide
theorem el_len (h : RW R M) {f : List (List Nat) → Nat → List (List Tr)} {b i : Nat} (hf : ∀ ks, ks.length ≤ 7 → (f ks i).length ≤ b) (k : List Nat) : (elF R M f k i).length ≤ 3 * b := by
  unfold elF
  cases hr : fdR R k with
  | none => exact Nat.zero_le _
  | some r =>
    dsimp only
    rw [len_flat]
    have h1 : (sm (f r.inn i) fun ch => (M.map fun m => Tr.el k m ch).length) ≤ (f r.inn i).length * 3 := sm_le fun ch _ => by rw [List.length_map]; exact h.m
    have h2 := hf r.inn (h.i r (fdR_some hr).1).1
    omega
theorem hd_len (h : RW R M) {f : List (List Nat) → Nat → List (List Tr)} {b i : Nat} (hf : ∀ ks, ks.length ≤ 7 → (f ks i).length ≤ b) {ks : List (List Nat)} (hk : ks.length ≤ 7) : (hdF R M f ks i).length ≤ 21 * b := by
  unfold hdF
  rw [len_flat]
  have h1 : (sm ks fun k => (elF R M f k i).length) ≤ ks.length * (3 * b) := sm_le fun k _ => el_len h hf k
  have h2 : ks.length * (3 * b) ≤ 7 * (3 * b) := Nat.mul_le_mul_right _ hk
  omega
theorem rw_in (f : List (List Nat) → Nat → List (List Tr)) (ks : List (List Nat)) (n i : Nat) : ((f ks (n - i)).flatMap fun rest => (hdF R M f ks i).map (· :: rest)).length = (f ks (n - i)).length * (hdF R M f ks i).length := by
  rw [len_flat]
  have e : (fun rest : List Tr => ((hdF R M f ks i).map (· :: rest)).length) = fun _ => (hdF R M f ks i).length := by funext rest; rw [List.length_map]
  rw [e, sm_const]
theorem rw_len (h : RW R M) : ∀ (g : Nat) (ks : List (List Nat)) (n : Nat), n < 5 → ks.length ≤ 7 → (rwF R M g ks n).length ≤ bN n
  | 0, _, _, _, _ => Nat.zero_le _
  | _ + 1, _, 0, _, _ => Nat.le_refl 1
  | g + 1, ks, n + 1, hn, hk => by
    rw [rwF, len_flat]
    refine Nat.le_trans (sm_le2 (g := fun i => bN (n - i) * (21 * bN i)) fun i hi => ?_) (bN_step n (by omega))
    have hi := List.mem_range.mp hi
    rw [rw_in]
    exact Nat.mul_le_mul (rw_len h g ks (n - i) (by omega) hk) (hd_len h (fun ks hk => rw_len h g ks i (by omega) hk) hk)
end
end
section
theorem ss_eachT {N B C : Rho → Prop} {R : D → Prop} {E : Rho → Str → List Str → List D → Prop} {r : Rho} {α : Type} {m : Nat} {f : Rho → Res D} {F : Rho → SR} (g : α → D) (xs : List α) (I : Nat → Rho → Prop) (h : Rs (f r) (fun d => d = .tup (xs.map g)) (E r)) (h0 : I 0 r) (hs : ∀ i x r, xs[i]? = some x → I i r → Ss (F (r.set m (some (g x)))) (I (i + 1)) R N (I (i + 1)) E) (he : ∀ r, I xs.length r → N r) : Ss (forF (dIt itemsT f) (tgN m) F r) N R B C E :=
  ss_for I (rs_it (h.impE (fun d q => by
    subst q
    refine rs_itsT ⟨h0, fun i d r h1 h2 => ?_, fun r h => he r (by rw [List.length_map] at h; exact h)⟩
    rw [List.getElem?_map] at h1
    cases hx : xs[i]? with
    | none => rw [hx] at h1; cases h1
    | some x => rw [hx] at h1; cases h1; exact ⟨_, rfl, hs i x r hx h2⟩) fun _ _ _ z => z))
theorem bN_le4 : ∀ n < 4, bN n ≤ 46305 := by decide
theorem sz16 : 16000000 ≤ sizeLine := Nat.le_of_ble_eq_true rfl
theorem fm_snoc {α β : Type} (f : α → List β) {l : List α} {a : Nat} {x : α} (h : l[a]? = some x) : (l.take (a + 1)).flatMap f = (l.take a).flatMap f ++ f x := by
  rw [take_snoc h, List.flatMap_append, List.flatMap_cons, List.flatMap_nil, List.append_nil]
theorem fm_range {β : Type} (f : Nat → List β) (a n : Nat) (h : a ≤ n) : ((List.range a).flatMap f).length ≤ ((List.range n).flatMap f).length := by
  have e : (List.range n).take a = List.range a := by rw [List.take_range, Nat.min_eq_left h]
  rw [← e]
  exact fm_take f _ a
def rtD (ch : List Tr) : D := .tup (ch.map tD)
theorem rt_el (k m : List Nat) (ch : List Tr) : D.tup [wD k, wD m, rtD ch] = tD (.el k m ch) := by rw [tD_el]; rfl
abbrev mkD (M : List (List Nat)) : D := .lst (M.map wD)
section
variable {top : List Nat} {R : List GR} {M : List (List Nat)}
theorem rw_el : ∀ (g : Nat) (ks : List (List Nat)) (n : Nat) (ch : List Tr), ch ∈ rwF R M g ks n → ch.length ≤ n
  | 0, _, _, _, h => by cases h
  | _ + 1, _, 0, ch, h => by
    have : ch = [] := by simpa [rwF] using h
    rw [this]; exact Nat.le_refl _
  | g + 1, ks, n + 1, ch, h => by
    rw [rwF] at h
    obtain ⟨i, hi, h⟩ := List.mem_flatMap.mp h
    obtain ⟨rest, hr, h⟩ := List.mem_flatMap.mp h
    obtain ⟨t, _, rfl⟩ := List.mem_map.mp h
    have hi := List.mem_range.mp hi
    have := rw_el g ks (n - i) rest hr
    rw [List.length_cons]
    omega
def RowsAt (top : List Nat) (R : List GR) (M : List (List Nat)) (g : Nat) : Prop := ∀ (ks : List (List Nat)) (n : Nat), n + 1 ≤ g → n < 5 → ks.length ≤ 7 → (∀ w ∈ ks, ∃ r, fdR R w = some r) → F_Grammar_rows_of g [grD top R, .tup (ks.map wD), .int (n : Int), mkD M] = .ok (.lst ((rwF R M g ks n).map rtD))
abbrev erR (top : List Nat) (R : List GR) (M : List (List Nat)) (k : List Nat) (i : Nat) (x4 x5 x6 : Option D) : Rho := [some (grD top R), some (wD k), some (.int ((i + 1 : Nat) : Int)), some (mkD M), x4, x5, x6]
theorem elems_eq (h : RW R M) {g : Nat} (hr : RowsAt top R M g) {k : List Nat} {r : GR} (hk : fdR R k = some r) {i : Nat} (hi : i + 1 ≤ g) (hi5 : i < 5) : F_Grammar_elements_of (F_Grammar_rows_of g) [grD top R, wD k, .int ((i + 1 : Nat) : Int), mkD M] = .ok (.lst ((elF R M (rwF R M g) k i).map tD)) := Rs.eq (by
  have hb := el_len h (f := rwF R M g) (b := bN i) (fun ks hk => rw_len h g ks i hi5 hk) k
  have hb2 := bN_le i hi5
  have hri := h.i r (fdR_some hk).1
  have hm := h.m
  have hs16 := sz16
  have he : elF R M (rwF R M g) k i = (rwF R M g r.inn i).flatMap fun ch => M.map fun m => .el k m ch := by unfold elF; rw [hk]
  rw [he] at hb ⊢
  have hrow := hr r.inn i hi hi5 hri.1 hri.2
  generalize rwF R M g r.inn i = rows at hb hrow
  refine rs_run ?_
  unfold Fb_Grammar_elements_of
  show Ss (seqF _ _ (erR top R M k i none none none)) _ _ _ _ _
  refine ss_seq (ss_cut (fun z => z = erR top R M k i (some (.lst ([].map tD))) none none) ?_ ?_)
  · array_get_dec
    rfl
  rintro _ rfl
  refine ss_seq (ss_cut (fun z => ∃ x5 x6, z = erR top R M k i (some (.lst ((rows.flatMap fun ch => M.map fun m => Tr.el k m ch).map tD))) x5 x6) ?_ ?_)
  · refine ss_each rtD rows (fun a z => ∃ x5 x6, z = erR top R M k i (some (.lst (((rows.take a).flatMap fun ch => M.map fun m => Tr.el k m ch).map tD))) x5 x6) ?_ ⟨none, none, rfl⟩ ?_ ?_
    · refine rs_meth (rs_var (d := grD top R) rfl (rs_isObj (by decide) (rs_cons (rs_op (rs_op (rs_un (rs_var (d := grD top R) rfl (rs_fld (d := tbD R) rfl (rs_var (d := wD k) rfl (rs_getR hk (rs_c (rs_ixT (d := .tup (r.inn.map wD)) (atI_nat (j := 1) rfl) (rs_cons (rs_op (rs_var rfl (rs_c (rs_sub (rs_cons (rs_var (d := mkD M) rfl (rs_nil ?_))))))))))))))))))))
      rw [show ((i + 1 : Nat) : Int) - 1 = (i : Int) from by omega]
      exact Rs.of hrow rfl
    · rintro a ch z ha ⟨x5, x6, rfl⟩
      have hP := fm_take (fun ch => M.map fun m => Tr.el k m ch) rows a
      rw [fm_snoc _ ha]
      generalize (rows.take a).flatMap (fun ch => M.map fun m => Tr.el k m ch) = P at hP
      show Ss (Lp_Grammar_elements_of_2 (erR top R M k i (some (.lst (P.map tD))) (some (rtD ch)) x6)) _ _ _ _ _
      unfold Lp_Grammar_elements_of_2
      refine ss_each wD M (fun b z => ∃ x6, z = erR top R M k i (some (.lst ((P ++ (M.take b).map fun m => Tr.el k m ch).map tD))) (some (rtD ch)) x6) (rs_var rfl rfl) ⟨x6, by rw [List.take_zero, List.map_nil, List.append_nil]⟩ ?_ ?_
      · rintro b m z hb' ⟨x6, rfl⟩
        have hbl : ((M.take b).map fun m => Tr.el k m ch).length ≤ 3 := by rw [List.length_map, List.length_take]; omega
        have e : (M.take (b + 1)).map (fun m => Tr.el k m ch) = (M.take b).map (fun m => Tr.el k m ch) ++ [.el k m ch] := by rw [take_snoc hb', List.map_append]; rfl
        rw [e, ← List.append_assoc]
        have hQ : (P ++ (M.take b).map fun m => Tr.el k m ch).length < 16000000 := by rw [List.length_append]; omega
        generalize P ++ (M.take b).map (fun m => Tr.el k m ch) = Q at hQ
        show Ss (Lp_Grammar_elements_of_1 (erR top R M k i (some (.lst (Q.map tD))) (some (rtD ch)) (some (wD m)))) _ _ _ _ _
        unfold Lp_Grammar_elements_of_1
        refine ss_app (ds := Q.map tD) rfl (rs_tup (rs_cons (rs_var (d := wD k) rfl (rs_cons (rs_var (d := wD m) rfl (rs_cons (rs_var (d := rtD ch) rfl (rs_nil ⟨Nat.le_of_ble_eq_true rfl, ?_, some (wD m), ?_⟩))))))))
        · rw [List.length_map]
          exact Nat.lt_of_lt_of_le hQ hs16
        · rw [rt_el, List.map_append]
          rfl
      · rintro z ⟨x6, rfl⟩
        rw [List.take_length]
        exact ⟨_, x6, rfl⟩
    · rintro z ⟨x5, x6, rfl⟩
      rw [List.take_length]
      exact ⟨x5, x6, rfl⟩
  rintro _ ⟨x5, x6, rfl⟩
  exact ss_ret (rs_var rfl rfl))
abbrev rrR (top : List Nat) (R : List GR) (M : List (List Nat)) (ks : List (List Nat)) (n : Nat) (x4 x5 x6 x7 x8 x9 : Option D) : Rho := [some (grD top R), some (.tup (ks.map wD)), some (.int (n : Int)), some (mkD M), x4, x5, x6, x7, x8, x9]
theorem hd_take {f : List (List Nat) → Nat → List (List Tr)} {ks : List (List Nat)} {i a : Nat} {w : List Nat} (h : ks[a]? = some w) : hdF R M f (ks.take (a + 1)) i = hdF R M f (ks.take a) i ++ elF R M f w i := fm_snoc _ h
theorem rows_eq (h : RW R M) : ∀ g : Nat, RowsAt top R M g
  | 0 => fun ks n hn => by omega
  | g + 1 => fun ks n hn hn5 hk hks => Rs.eq (by
    show Rs (runF 10 false (Fb_Grammar_rows_of (F_Grammar_rows_of g)) [grD top R, .tup (ks.map wD), .int (n : Int), mkD M]) _ _
    refine rs_run ?_
    unfold Fb_Grammar_rows_of
    show Ss (seqF _ _ (rrR top R M ks n none none none none none none)) _ _ _ _ _
    have hs16 := sz16
    cases n with
    | zero =>
      refine ss_seq (ss_if (rs_T (rs_op (rs_var rfl (rs_c (rs_eqI (rs_asB ⟨fun _ => ?_, fun z => absurd (of_decide_eq_false z) (by decide)⟩)))))))
      exact ss_ret (rs_lst (rs_cons (rs_tup (rs_nil ⟨Nat.le_of_ble_eq_true rfl, rs_nil ⟨Nat.le_of_ble_eq_true rfl, rfl⟩⟩))))
    | succ n =>
      have hlen := rw_len h (g + 1) ks (n + 1) hn5 hk
      have hb2 := bN_le (n + 1) hn5
      refine ss_seq (ss_if (rs_T (rs_op (rs_var rfl (rs_c (rs_eqI (rs_asB ⟨fun z => absurd (of_decide_eq_true z) (by omega), fun _ => ss_nx ?_⟩)))))))
      refine ss_seq (ss_cut (fun z => z = rrR top R M ks (n + 1) (some (.lst ([].map rtD))) none none none none none) ?_ ?_)
      · array_get_dec
        rfl
      rintro _ rfl
      obtain ⟨F, hF⟩ : ∃ F : Nat → List (List Tr), F = fun i => (rwF R M g ks (n - i)).flatMap fun rest => (hdF R M (rwF R M g) ks i).map (· :: rest) := ⟨_, rfl⟩
      have hFe : rwF R M (g + 1) ks (n + 1) = (List.range (n + 1)).flatMap F := by rw [rwF, hF]
      rw [hFe] at hlen ⊢
      refine ss_seq (ss_cut (fun z => ∃ x5 x6 x7 x8 x9, z = rrR top R M ks (n + 1) (some (.lst (((List.range (n + 1)).flatMap F).map rtD))) x5 x6 x7 x8 x9) ?_ ?_)
      · refine ss_rng2 1 (n + 2) (fun i z => ∃ x5 x6 x7 x8 x9, z = rrR top R M ks (n + 1) (some (.lst (((List.range i).flatMap F).map rtD))) x5 x6 x7 x8 x9) (rs_c rfl) (rs_op (rs_var rfl (rs_c (rs_add ?_)))) (by omega) (by omega) ⟨none, none, none, none, none, rfl⟩ ?_ ?_
        · rw [show ((n + 1 : Nat) : Int) + 1 = ((n + 2 : Nat) : Int) from by omega]
        · rintro i z hi ⟨x5, x6, x7, x8, x9, rfl⟩
          have hin : i ≤ n := by omega
          have hPF : ((List.range i).flatMap F ++ F i).length ≤ ((List.range (n + 1)).flatMap F).length := by
            have := fm_range F (i + 1) (n + 1) (by omega)
            rw [List.range_succ, List.flatMap_append, List.flatMap_cons, List.flatMap_nil, List.append_nil] at this
            exact this
          have e : (List.range (i + 1)).flatMap F = (List.range i).flatMap F ++ F i := by rw [List.range_succ, List.flatMap_append, List.flatMap_cons, List.flatMap_nil, List.append_nil]
          rw [e]
          generalize (List.range i).flatMap F = P at hPF
          have hFi : F i = (rwF R M g ks (n - i)).flatMap fun rest => (hdF R M (rwF R M g) ks i).map (· :: rest) := by rw [hF]
          have hPF := Nat.le_trans hPF hlen
          rw [hFi] at hPF ⊢
          clear hF hFe hFi hlen e
          have hhd := hd_len h (f := rwF R M g) (b := bN i) (fun ks hk => rw_len h g ks i (by omega) hk) hk
          have hrow := rows_eq h g ks (n - i) (by omega) (by omega) hk hks
          have hrl := rw_len h g ks (n - i) (by omega) hk
          have hre := rw_el (R := R) (M := M) g ks (n - i)
          have hbi := bN_le4 i (by omega)
          show Ss (Lp_Grammar_rows_of_4 (F_Grammar_rows_of g) (rrR top R M ks (n + 1) (some (.lst (P.map rtD))) (some (.int ((1 + i : Nat) : Int))) x6 x7 x8 x9)) _ _ _ _ _
          unfold Lp_Grammar_rows_of_4
          refine ss_seq (ss_cut (fun z => z = rrR top R M ks (n + 1) (some (.lst (P.map rtD))) (some (.int ((1 + i : Nat) : Int))) (some (.lst ([].map tD))) x7 x8 x9) ?_ ?_)
          · array_get_dec
            rfl
          rintro _ rfl
          refine ss_seq (ss_cut (fun z => ∃ x7, z = rrR top R M ks (n + 1) (some (.lst (P.map rtD))) (some (.int ((1 + i : Nat) : Int))) (some (.lst ((hdF R M (rwF R M g) ks i).map tD))) x7 x8 x9) ?_ ?_)
          · refine ss_eachT wD ks (fun a z => ∃ x7, z = rrR top R M ks (n + 1) (some (.lst (P.map rtD))) (some (.int ((1 + i : Nat) : Int))) (some (.lst ((hdF R M (rwF R M g) (ks.take a) i).map tD))) x7 x8 x9) (rs_var rfl rfl) ⟨x7, rfl⟩ ?_ ?_
            · rintro a w z ha ⟨x7, rfl⟩
              obtain ⟨r, hr⟩ := hks w (List.mem_of_getElem? ha)
              have hal : (ks.take (a + 1)).length ≤ 7 := by rw [List.length_take]; omega
              have hh := hd_len h (f := rwF R M g) (b := bN i) (fun ks hk => rw_len h g ks i (by omega) hk) hal
              have hee := elems_eq h (rows_eq h g) hr (i := i) (by omega) (by omega)
              rw [hd_take ha] at hh ⊢
              show Ss (Lp_Grammar_rows_of_1 (F_Grammar_rows_of g) (rrR top R M ks (n + 1) (some (.lst (P.map rtD))) (some (.int ((1 + i : Nat) : Int))) (some (.lst ((hdF R M (rwF R M g) (ks.take a) i).map tD))) (some (wD w)) x8 x9)) _ _ _ _ _
              unfold Lp_Grammar_rows_of_1
              refine ss_ext rfl (rs_meth (rs_var (d := grD top R) rfl (rs_isObj (by decide) (rs_cons (rs_var (d := wD w) rfl (rs_cons (rs_var (d := .int ((1 + i : Nat) : Int)) rfl (rs_cons (rs_var (d := mkD M) rfl (rs_nil ?_))))))))))
              rw [show (1 + i : Nat) = i + 1 from by omega]
              refine Rs.of hee (rs_asL ⟨?_, some (wD w), ?_⟩)
              · rw [List.length_map, List.length_map]
                rw [List.length_append] at hh
                omega
              · rw [List.map_append]
                rfl
            · rintro z ⟨x7, rfl⟩
              rw [List.take_length]
              exact ⟨x7, rfl⟩
          rintro _ ⟨x7, rfl⟩
          generalize hdF R M (rwF R M g) ks i = hs at hPF hhd
          generalize rwF R M g ks (n - i) = rows at hPF hrow hrl hre
          refine ss_if (rs_tru (rs_var rfl (rs_truL ⟨fun z => ?_, fun z => ?_⟩)))
          · refine ss_each rtD rows (fun a z => ∃ x8 x9, z = rrR top R M ks (n + 1) (some (.lst ((P ++ (rows.take a).flatMap fun rest => hs.map (· :: rest)).map rtD))) (some (.int ((1 + i : Nat) : Int))) (some (.lst (hs.map tD))) x7 x8 x9) ?_ ⟨x8, x9, by rw [List.take_zero, List.flatMap_nil, List.append_nil]⟩ ?_ ?_
            · refine rs_meth (rs_var (d := grD top R) rfl (rs_isObj (by decide) (rs_cons (rs_var (d := .tup (ks.map wD)) rfl (rs_cons (rs_op (rs_var rfl (rs_var rfl (rs_sub (rs_cons (rs_var (d := mkD M) rfl (rs_nil ?_))))))))))) )
              rw [show ((n + 1 : Nat) : Int) - ((1 + i : Nat) : Int) = ((n - i : Nat) : Int) from by omega]
              exact Rs.of hrow rfl
            · rintro a rest z ha ⟨x8, x9, rfl⟩
              have hrel := hre rest (List.mem_of_getElem? ha)
              have hP2 := fm_take (fun rest => hs.map (· :: rest)) rows (a + 1)
              rw [fm_snoc _ ha] at hP2 ⊢
              rw [← List.append_assoc]
              have hQ : (P ++ (rows.take a).flatMap (fun rest => hs.map (· :: rest))).length + hs.length ≤ 2722734 := by
                rw [List.length_append, List.length_map] at hP2
                rw [List.length_append] at hPF ⊢
                omega
              generalize P ++ (rows.take a).flatMap (fun rest => hs.map (· :: rest)) = Q at hQ
              show Ss (Lp_Grammar_rows_of_3 (rrR top R M ks (n + 1) (some (.lst (Q.map rtD))) (some (.int ((1 + i : Nat) : Int))) (some (.lst (hs.map tD))) x7 (some (rtD rest)) x9)) _ _ _ _ _
              unfold Lp_Grammar_rows_of_3
              refine ss_each tD hs (fun b z => ∃ x9, z = rrR top R M ks (n + 1) (some (.lst ((Q ++ (hs.take b).map (· :: rest)).map rtD))) (some (.int ((1 + i : Nat) : Int))) (some (.lst (hs.map tD))) x7 (some (rtD rest)) x9) (rs_var rfl rfl) ⟨x9, by rw [List.take_zero, List.map_nil, List.append_nil]⟩ ?_ ?_
              · rintro b t z hb ⟨x9, rfl⟩
                have hbl := (List.getElem?_eq_some_iff.mp hb).1
                have e : (hs.take (b + 1)).map (· :: rest) = (hs.take b).map (· :: rest) ++ [t :: rest] := by rw [take_snoc hb, List.map_append]; rfl
                rw [e, ← List.append_assoc]
                have hQ2 : (Q ++ (hs.take b).map (· :: rest)).length < 16000000 := by rw [List.length_append, List.length_map, List.length_take]; omega
                generalize Q ++ (hs.take b).map (· :: rest) = Q2 at hQ2
                show Ss (Lp_Grammar_rows_of_2 (rrR top R M ks (n + 1) (some (.lst (Q2.map rtD))) (some (.int ((1 + i : Nat) : Int))) (some (.lst (hs.map tD))) x7 (some (rtD rest)) (some (tD t)))) _ _ _ _ _
                unfold Lp_Grammar_rows_of_2
                refine ss_app (ds := Q2.map rtD) rfl (rs_op (rs_tup (rs_cons (rs_var (d := tD t) rfl (rs_nil ⟨Nat.le_of_ble_eq_true rfl, rs_var (d := rtD rest) rfl (rs_addT ?_ ⟨?_, some (tD t), ?_⟩)⟩)))))
                · rw [List.length_map, List.length_cons, List.length_nil]
                  omega
                · rw [List.length_map]
                  exact Nat.lt_of_lt_of_le hQ2 hs16
                · rw [List.map_append]
                  rfl
              · rintro z ⟨x9, rfl⟩
                rw [List.take_length]
                exact ⟨_, x9, rfl⟩
            · rintro z ⟨x8, x9, rfl⟩
              rw [List.take_length]
              exact ⟨_, _, x7, x8, x9, rfl⟩
          · have hnil : hs = [] := by
              cases hs with
              | nil => rfl
              | cons t hs => simp at z
            subst hnil
            have e0 : (rows.flatMap fun rest => ([] : List Tr).map (· :: rest)) = [] := List.flatMap_eq_nil_iff.mpr fun _ _ => rfl
            rw [e0, List.append_nil]
            exact ss_nx ⟨_, _, x7, x8, x9, rfl⟩
        · rintro z hz
          exact hz
      rintro _ ⟨x5, x6, x7, x8, x9, rfl⟩
      exact ss_ret (rs_var rfl rfl))
end
end
section
section
variable {R : List GR} {M : List (List Nat)}
abbrev W9 (R : List GR) (M : List (List Nat)) (ks : List (List Nat)) (n : Nat) : List (List Tr) := rwF R M 9 ks n
abbrev E9 (R : List GR) (M : List (List Nat)) (k : List Nat) (i : Nat) : List Tr := elF R M (rwF R M 9) k i
theorem w_succ (ks : List (List Nat)) {n : Nat} (h : n < 8) : (W9 R M ks (n + 1)).length = sm (List.range (n + 1)) fun i => (sm ks fun k => (E9 R M k i).length) * (W9 R M ks (n - i)).length := by
  show (rwF R M (8 + 1) ks (n + 1)).length = _
  rw [rwF, len_flat]
  refine sm_congr fun i hi => ?_
  have hi := List.mem_range.mp hi
  rw [rw_in, rwF_eq 8 9 ks (n - i) (by omega) (by omega), Nat.mul_comm]
  congr 1
  unfold hdF
  rw [len_flat]
  exact sm_congr fun k _ => by rw [elF_congr (f' := rwF R M 9) fun ks => rwF_eq 8 9 ks i (by omega) (by omega)]
theorem e_len {k : List Nat} {r : GR} (i : Nat) (h : fdR R k = some r) : (E9 R M k i).length = M.length * (W9 R M r.inn i).length := by
  unfold E9 elF
  rw [h]
  dsimp only
  rw [len_flat]
  have e : (fun ch : List Tr => (M.map fun m => Tr.el k m ch).length) = fun _ => M.length := by funext ch; rw [List.length_map]
  rw [e, sm_const, Nat.mul_comm]
theorem sum_cast {α : Type} (f : α → Nat) : ∀ l : List α, (l.map fun x => (f x : Int)).sum = ((sm l f : Nat) : Int)
  | [] => rfl
  | x :: l => by rw [List.map_cons, List.sum_cons, sum_cast f l, sm_cons, Int.natCast_add]
theorem sm_snoc (f : Nat → Nat) (i : Nat) : sm (List.range (i + 1)) f = sm (List.range i) f + f i := by rw [List.range_succ, sm_app, sm_cons, sm_nil]; rfl
abbrev CK := List Nat × Nat
def ckK (p : CK) : List Key := [Sum.inr (Sg p.1), Sum.inl (p.2 : Int)]
theorem ckK_inj {p q : CK} (h : ckK p = ckK q) : p = q := by
  obtain ⟨a, b⟩ := p
  obtain ⟨c, d⟩ := q
  unfold ckK at h
  simp only [List.cons.injEq, and_true] at h
  obtain ⟨h1, h2⟩ := h
  have h1 : a = c := by simpa using Sum.inr.inj h1
  have h2 : b = d := by have := Sum.inl.inj h2; omega
  rw [h1, h2]
def cdD (es : List (CK × Nat)) : D := .dt (es.map fun e => ckK e.1) (es.map fun e => .int (e.2 : Int))
theorem get_cd {es : List (CK × Nat)} {p : CK} {v : Nat} (h1 : ∀ e ∈ es, e.1 = p → e.2 = v) (h2 : ∃ e ∈ es, e.1 = p) : getK (es.map fun e => ckK e.1) (es.map fun e => D.int (e.2 : Int)) (ckK p) = some (.int (v : Int)) := by
  induction es with
  | nil => obtain ⟨_, h, _⟩ := h2; cases h
  | cons e es ih =>
    rw [List.map_cons, List.map_cons]
    unfold getK
    by_cases c : e.1 = p
    · rw [if_pos (by rw [c]), h1 e List.mem_cons_self c]
    · rw [if_neg fun z => c (ckK_inj z)]
      refine ih (fun x hx => h1 x (List.mem_cons_of_mem _ hx)) ?_
      obtain ⟨x, hx, hxp⟩ := h2
      rcases List.mem_cons.mp hx with rfl | hx
      · exact absurd hxp c
      · exact ⟨x, hx, hxp⟩
theorem rs_getCd {es : List (CK × Nat)} {k : List Nat} {s v : Nat} {Q : D → Prop} {E : Str → List Str → List D → Prop} (h1 : ∀ e ∈ es, e.1 = (k, s) → e.2 = v) (h2 : ∃ e ∈ es, e.1 = (k, s)) (q : Q (.int (v : Int))) : Rs (getZ (cdD es) (.tup [wD k, .int (s : Int)])) Q E := by
  show Rs (match getK (es.map fun e => ckK e.1) (es.map fun e => D.int (e.2 : Int)) (ckK (k, s)) with | some d => Res.ok d | none => Res.bad) Q E
  rw [get_cd h1 h2]
  exact q
theorem put_cd {es : List (CK × Nat)} {p : CK} (v : Nat) (h : ∀ e ∈ es, e.1 ≠ p) : putV (es.map fun e => ckK e.1) (es.map fun e => D.int (e.2 : Int)) (ckK p) (.int (v : Int)) = ((es ++ [(p, v)]).map fun e => ckK e.1, (es ++ [(p, v)]).map fun e => D.int (e.2 : Int)) := by
  unfold putV
  rw [if_neg, List.map_append, List.map_append]
  · rfl
  · intro q
    obtain ⟨x, hx, e⟩ := List.any_eq_true.mp q
    obtain ⟨y, hy, rfl⟩ := List.mem_map.mp hx
    exact h y hy (ckK_inj (of_decide_eq_true e))
theorem ss_putCd {N B C : Rho → Prop} {Rt : D → Prop} {E : Rho → Str → List Str → List D → Prop} {r : Rho} {i : Nat} {fk f : Rho → Res D} {es : List (CK × Nat)} {k : List Nat} {s v : Nat} (hr : r[i]? = some (some (cdD es))) (hf : Rs (f r) (fun d => d = .int (v : Int)) (E r)) (hk : Rs (fk r) (fun d => d = .tup [wD k, .int (s : Int)]) (E r)) (hn : ∀ e ∈ es, e.1 ≠ (k, s)) (hl : es.length < 100000) (q : N (r.set i (some (cdD (es ++ [((k, s), v)]))))) : Ss (putT i fk f r) N Rt B C E := by
  unfold putT
  refine ss_lift (hf.impE (fun d e => ?_) fun _ _ _ z => z)
  subst e
  refine ss_lift (Rs.of (a := (es.map fun e => ckK e.1, es.map fun e => D.int (e.2 : Int))) (by unfold ownT; rw [hr]; rfl) ?_)
  refine ss_lift (hk.impE (fun d e => ?_) fun _ _ _ z => z)
  subst e
  refine ss_lift (Rs.of (a := ckK (k, s)) rfl ?_)
  rw [guardS_pos (Nat.lt_of_lt_of_le (show _ < 100000 by rw [List.length_map]; exact hl) sz5)]
  show N (r.set i (some (D.dt (putV (es.map fun e => ckK e.1) (es.map fun e => D.int (e.2 : Int)) (ckK (k, s)) (.int (v : Int))).1 (putV (es.map fun e => ckK e.1) (es.map fun e => D.int (e.2 : Int)) (ckK (k, s)) (.int (v : Int))).2)))
  rw [put_cd v hn]
  exact q
/-- the counts of all kinds for sizes up to n stand in es, and nothing else -/
def FV (R : List GR) (M : List (List Nat)) (es : List (CK × Nat)) : Prop := ∀ e ∈ es, e.2 = (E9 R M e.1.1 (e.1.2 - 1)).length
abbrev wyR (ks : List (List Nat)) (n : Nat) (es : List (CK × Nat)) (x3 x4 x5 x6 x7 : Option D) : Rho := [some (.tup (ks.map wD)), some (.int (n : Int)), some (cdD es), x3, x4, x5, x6, x7]
def wyL (R : List GR) (M : List (List Nat)) (ks : List (List Nat)) (t : Nat) : D := .lst ((List.range t).map fun n => .int ((W9 R M ks n).length : Int))
theorem ways_eq (h : RW R M) {ks : List (List Nat)} (hk : ks.length ≤ 7) {n : Nat} (hn : n < 5) {es : List (CK × Nat)} (hf : FV R M es) (hes : ∀ k ∈ ks, ∀ i < n, ∃ e ∈ es, e.1 = (k, i + 1)) : F_l_ways [.tup (ks.map wD), .int (n : Int), cdD es] = .ok (.int ((W9 R M ks n).length : Int)) := Rs.eq (by
  refine rs_run ?_
  unfold Fb_l_ways
  show Ss (seqF _ _ (wyR ks n es none none none none none)) _ _ _ _ _
  refine ss_seq (ss_cut (fun z => z = wyR ks n es (some (wyL R M ks 1)) none none none none) ?_ ?_)
  · array_get_dec
    rfl
  rintro _ rfl
  refine ss_seq (ss_cut (fun z => ∃ x4 x5 x6 x7, z = wyR ks n es (some (wyL R M ks (n + 1))) x4 x5 x6 x7) ?_ ?_)
  · refine ss_rng2 1 (n + 1) (fun t z => ∃ x4 x5 x6 x7, z = wyR ks n es (some (wyL R M ks (t + 1))) x4 x5 x6 x7) (rs_c rfl) (rs_op (rs_var rfl (rs_c (rs_add ?_)))) (by omega) (by omega) ⟨none, none, none, none, rfl⟩ ?_ ?_
    · rw [show (n : Int) + 1 = ((n + 1 : Nat) : Int) from by omega]
    · rintro t z ht ⟨x4, x5, x6, x7, rfl⟩
      have htn : t < n := by omega
      show Ss (Lp_l_ways_2 (wyR ks n es (some (wyL R M ks (t + 1))) (some (.int ((1 + t : Nat) : Int))) x5 x6 x7)) _ _ _ _ _
      unfold Lp_l_ways_2
      refine ss_seq (ss_set (rs_c ?_))
      refine ss_seq (ss_cut (fun z => ∃ x6 x7, z = wyR ks n es (some (wyL R M ks (t + 1))) (some (.int ((1 + t : Nat) : Int))) (some (.int ((W9 R M ks (t + 1)).length : Int))) x6 x7) ?_ ?_)
      · rw [w_succ ks (show t < 8 by omega)]
        refine ss_rng2 1 (t + 2) (fun a z => ∃ x6 x7, z = wyR ks n es (some (wyL R M ks (t + 1))) (some (.int ((1 + t : Nat) : Int))) (some (.int ((sm (List.range a) fun i => (sm ks fun k => (E9 R M k i).length) * (W9 R M ks (t - i)).length : Nat) : Int))) x6 x7) (rs_c rfl) (rs_op (rs_var rfl (rs_c (rs_add ?_)))) (by omega) (by omega) ⟨x6, x7, rfl⟩ ?_ ?_
        · rw [show ((1 + t : Nat) : Int) + 1 = ((t + 2 : Nat) : Int) from by omega]
        · rintro a z ha ⟨x6, x7, rfl⟩
          have hat : a ≤ t := by omega
          have hW : (W9 R M ks (t - a)).length ≤ bN (t - a) := rw_len h 9 ks (t - a) (by omega) hk
          have hWb := bN_le (t - a) (by omega)
          rw [sm_snoc]
          generalize (sm (List.range a) fun i => (sm ks fun k => (E9 R M k i).length) * (W9 R M ks (t - i)).length) = s0
          show Ss (Lp_l_ways_1 (wyR ks n es (some (wyL R M ks (t + 1))) (some (.int ((1 + t : Nat) : Int))) (some (.int (s0 : Int))) (some (.int ((1 + a : Nat) : Int))) x7)) _ _ _ _ _
          unfold Lp_l_ways_1
          refine ss_set (rs_op (rs_var rfl (rs_op (rs_call (rs_cons (rs_lc wD (fun k => .int ((E9 R M k a).length : Int)) ks (rs_it (rs_var rfl (rs_itsT rfl))) (Nat.le_trans (show ks.length ≤ 100000 by omega) sz5) (fun k hkm => ⟨_, rfl, rfl, ?_⟩) (rs_nil ?_)))))))
          · refine rs_op (rs_var (d := cdD es) rfl (rs_tup (rs_cons (rs_var (d := wD k) rfl (rs_cons (rs_var (d := .int ((1 + a : Nat) : Int)) rfl (rs_nil ⟨Nat.le_of_ble_eq_true rfl, ?_⟩)))))))
            refine rs_getCd (v := (E9 R M k a).length) (fun e he hek => ?_) ?_ rfl
            · rw [hf e he, hek, show 1 + a - 1 = a from by omega]
            · rw [show 1 + a = a + 1 from by omega]
              exact hes k hkm a (by omega)
          · have e : (ks.map fun k => D.int ((E9 R M k a).length : Int)) = (ks.map fun k => ((E9 R M k a).length : Int)).map D.int := by rw [List.map_map]; rfl
            rw [e]
            refine rs_sum ?_
            rw [sum_cast]
            refine rs_op (rs_var (d := wyL R M ks (t + 1)) rfl (rs_op (rs_var rfl (rs_var rfl (rs_sub ?_)))))
            rw [show ((1 + t : Nat) : Int) - ((1 + a : Nat) : Int) = ((t - a : Nat) : Int) from by omega]
            refine rs_ixL (d := .int ((W9 R M ks (t - a)).length : Int)) (atI_nat (by rw [List.getElem?_map, List.getElem?_range (by omega)]; rfl)) ?_
            refine rs_mul (.inr (small_of (by omega) (by omega))) (rs_add ⟨some (.int ((1 + a : Nat) : Int)), x7, ?_⟩)
            rw [← Int.natCast_mul, ← Int.natCast_add]
            rfl
        · rintro z hz
          exact hz
      rintro _ ⟨x6, x7, rfl⟩
      refine ss_app (ds := (List.range (t + 1)).map fun n => .int ((W9 R M ks n).length : Int)) rfl (rs_var rfl ⟨?_, some (.int ((1 + t : Nat) : Int)), some (.int ((W9 R M ks (t + 1)).length : Int)), x6, x7, ?_⟩)
      · rw [List.length_map, List.length_range]
        exact Nat.lt_of_lt_of_le (show t + 1 < 100000 by omega) sz5
      · have e : wyL R M ks (t + 1 + 1) = .lst (((List.range (t + 1)).map fun n => .int ((W9 R M ks n).length : Int)) ++ [.int ((W9 R M ks (t + 1)).length : Int)]) := by unfold wyL; rw [List.range_succ, List.map_append]; rfl
        rw [e]
        rfl
    · rintro z hz
      exact hz
  rintro _ ⟨x4, x5, x6, x7, rfl⟩
  exact ss_ret (rs_op (rs_var (d := wyL R M ks (n + 1)) rfl (rs_var rfl (rs_ixL (atI_nat (by rw [List.getElem?_map, List.getElem?_range (by omega)]; rfl)) rfl)))))
def esF (R : List GR) (M : List (List Nat)) (s : Nat) : List (CK × Nat) := (List.range s).flatMap fun i => R.map fun r => ((r.k, i + 1), (E9 R M r.k i).length)
theorem es_mem {s : Nat} {e : CK × Nat} (h : e ∈ esF R M s) : ∃ i < s, ∃ r ∈ R, e = ((r.k, i + 1), (E9 R M r.k i).length) := by
  obtain ⟨i, hi, h⟩ := List.mem_flatMap.mp h
  obtain ⟨r, hr, rfl⟩ := List.mem_map.mp h
  exact ⟨i, List.mem_range.mp hi, r, hr, rfl⟩
theorem es_in {s i : Nat} (hi : i < s) {r : GR} (hr : r ∈ R) : ((r.k, i + 1), (E9 R M r.k i).length) ∈ esF R M s := List.mem_flatMap.mpr ⟨i, List.mem_range.mpr hi, List.mem_map.mpr ⟨r, hr, rfl⟩⟩
theorem es_fv (s : Nat) : FV R M (esF R M s) := fun e he => by
  obtain ⟨i, _, r, _, rfl⟩ := es_mem he
  rfl
theorem es_len (s : Nat) : (esF R M s).length = s * R.length := by
  unfold esF
  rw [len_flat]
  have e : (fun i : Nat => (R.map fun r => (((r.k, i + 1), (E9 R M r.k i).length) : CK × Nat)).length) = fun _ => R.length := by funext i; rw [List.length_map]
  rw [e, sm_const, List.length_range]
theorem es_step (s : Nat) : esF R M (s + 1) = esF R M s ++ R.map fun r => ((r.k, s + 1), (E9 R M r.k s).length) := by
  unfold esF
  rw [List.range_succ, List.flatMap_append, List.flatMap_cons, List.flatMap_nil, List.append_nil]
abbrev coR (R : List GR) (M : List (List Nat)) (es : List (CK × Nat)) (x3 x4 : Option D) : Rho := [some (.lst (R.map rowD)), some (mkD M), some (cdD es), x3, x4]
theorem counts_eq (h : RW R M) (hd : (R.map (·.k)).Nodup) (hl : R.length ≤ 10) : F_l_counts [.lst (R.map rowD), mkD M] = .ok (cdD (esF R M 5)) := Rs.eq (by
  refine rs_run ?_
  unfold Fb_l_counts
  show Ss (seqF _ _ [some (.lst (R.map rowD)), some (mkD M), none, none, none]) _ _ _ _ _
  refine ss_seq (ss_set (show Rs (Res.ok _) _ _ from ?_))
  show Ss (seqF _ _ (coR R M (esF R M 0) none none)) _ _ _ _ _
  refine ss_seq (ss_cut (fun z => ∃ x3 x4, z = coR R M (esF R M 5) x3 x4) ?_ ?_)
  · refine ss_rng2 1 6 (fun s z => ∃ x3 x4, z = coR R M (esF R M s) x3 x4) (rs_c rfl) (rs_c rfl) (by omega) (by omega) ⟨none, none, rfl⟩ ?_ ?_
    · rintro s z hs ⟨x3, x4, rfl⟩
      show Ss (Lp_l_counts_2 (coR R M (esF R M s) (some (.int ((1 + s : Nat) : Int))) x4)) _ _ _ _ _
      unfold Lp_l_counts_2
      refine ss_each rowD R (fun a z => ∃ x4, z = coR R M (esF R M s ++ (R.take a).map fun r => ((r.k, s + 1), (E9 R M r.k s).length)) (some (.int ((1 + s : Nat) : Int))) x4) (rs_var rfl rfl) ⟨x4, by rw [List.take_zero, List.map_nil, List.append_nil]⟩ ?_ ?_
      · rintro a r z ha ⟨x4, rfl⟩
        have hrm := List.mem_of_getElem? ha
        have hfr := fdR_mem hd hrm
        have hri := h.i r hrm
        have hm := h.m
        have hnew := take_nd hd ha
        have hW : (W9 R M r.inn s).length ≤ bN s := rw_len h 9 r.inn s (by omega) hri.1
        have hWb := bN_le s (by omega)
        have e : (R.take (a + 1)).map (fun r => (((r.k, s + 1), (E9 R M r.k s).length) : CK × Nat)) = (R.take a).map (fun r => (((r.k, s + 1), (E9 R M r.k s).length) : CK × Nat)) ++ [((r.k, s + 1), (E9 R M r.k s).length)] := by rw [take_snoc ha, List.map_append]; rfl
        rw [e, ← List.append_assoc]
        have hfv : FV R M (esF R M s ++ (R.take a).map fun r => ((r.k, s + 1), (E9 R M r.k s).length)) := fun e he => by
          rcases List.mem_append.mp he with he | he
          · exact es_fv s e he
          · obtain ⟨r, _, rfl⟩ := List.mem_map.mp he
            rfl
        have hno : ∀ e ∈ esF R M s ++ (R.take a).map (fun r => (((r.k, s + 1), (E9 R M r.k s).length) : CK × Nat)), e.1 ≠ (r.k, s + 1) := fun e he => by
          rcases List.mem_append.mp he with he | he
          · obtain ⟨i, hi, r', _, rfl⟩ := es_mem he
            intro z
            have : i + 1 = s + 1 := congrArg Prod.snd z
            omega
          · obtain ⟨r', hr', rfl⟩ := List.mem_map.mp he
            intro z
            have z : r'.k = r.k := congrArg Prod.fst z
            exact hnew (z ▸ List.mem_map_of_mem hr')
        have hin : ∀ k ∈ r.inn, ∀ i < s, ∃ e ∈ esF R M s ++ (R.take a).map (fun r => (((r.k, s + 1), (E9 R M r.k s).length) : CK × Nat)), e.1 = (k, i + 1) := fun k hk i hi => by
          obtain ⟨r', hr'⟩ := hri.2 k hk
          obtain ⟨m1, m2⟩ := fdR_some hr'
          exact ⟨_, List.mem_append_left _ (es_in hi m1), by rw [m2]⟩
        have hel : (esF R M s ++ (R.take a).map (fun r => (((r.k, s + 1), (E9 R M r.k s).length) : CK × Nat))).length < 100000 := by
          rw [List.length_append, List.length_map, List.length_take, es_len]
          have : s * R.length ≤ 5 * 10 := Nat.mul_le_mul (by omega) hl
          omega
        generalize esF R M s ++ (R.take a).map (fun r => (((r.k, s + 1), (E9 R M r.k s).length) : CK × Nat)) = es at hfv hno hin hel
        have hw := ways_eq h hri.1 (n := s) (by omega) hfv hin
        show Ss (Lp_l_counts_1 (coR R M es (some (.int ((1 + s : Nat) : Int))) (some (rowD r)))) _ _ _ _ _
        unfold Lp_l_counts_1
        refine ss_putCd (es := es) (k := r.k) (s := s + 1) (v := (E9 R M r.k s).length) rfl ?_ ?_ hno hel ⟨some (rowD r), rfl⟩
        · refine rs_op (rs_call (rs_cons (rs_var (d := mkD M) rfl (rs_nil (rs_lenL ?_)))))
          rw [List.length_map]
          refine rs_call (rs_cons (rs_op (rs_var (d := rowD r) rfl (rs_c (rs_ixT (d := .tup (r.inn.map wD)) (atI_nat (j := 2) rfl) (rs_cons (rs_op (rs_var rfl (rs_c (rs_sub (rs_cons (rs_var (d := cdD es) rfl (rs_nil ?_)))))))))))))
          rw [show ((1 + s : Nat) : Int) - 1 = (s : Int) from by omega]
          refine Rs.of hw (rs_mul (.inl (small_of (by omega) (by omega))) ?_)
          rw [e_len s hfr, ← Int.natCast_mul]
        · refine rs_tup (rs_cons (rs_op (rs_var (d := rowD r) rfl (rs_c (rs_ixT (d := wD r.k) (atI_nat (j := 0) rfl) (rs_cons (rs_var rfl (rs_nil ⟨Nat.le_of_ble_eq_true rfl, ?_⟩))))))))
          rw [show (1 + s : Nat) = s + 1 from by omega]
      · rintro z ⟨x4, rfl⟩
        rw [List.take_length, ← es_step]
        exact ⟨_, x4, rfl⟩
    · rintro z hz
      exact hz
  rintro _ ⟨x3, x4, rfl⟩
  exact ss_ret (rs_var rfl rfl))
end
end
section
mutual
def Val (R : List GR) (M : List (List Nat)) (ks : List (List Nat)) : Tr → Prop
  | .tx _ => False
  | .el k m ch => k ∈ ks ∧ m ∈ M ∧ ∃ r, fdR R k = some r ∧ Vals R M r.inn ch
def Vals (R : List GR) (M : List (List Nat)) (ks : List (List Nat)) : List Tr → Prop
  | [] => True
  | t :: ts => Val R M ks t ∧ Vals R M ks ts
end
section
variable {top : List Nat} {R : List GR} {M : List (List Nat)}
theorem val_el {ks : List (List Nat)} {k m : List Nat} {ch : List Tr} : Val R M ks (.el k m ch) ↔ k ∈ ks ∧ m ∈ M ∧ ∃ r, fdR R k = some r ∧ Vals R M r.inn ch := by rw [Val]
theorem vals_cons {ks : List (List Nat)} {t : Tr} {ts : List Tr} : Vals R M ks (t :: ts) ↔ Val R M ks t ∧ Vals R M ks ts := by rw [Vals]
theorem vals_nil {ks : List (List Nat)} : Vals R M ks [] := by rw [Vals]; trivial
theorem vals_mem {ks : List (List Nat)} : ∀ {ch : List Tr}, Vals R M ks ch → ∀ t ∈ ch, Val R M ks t
  | [], _, _, h => by cases h
  | t :: ts, h, u, hu => by
    obtain ⟨h1, h2⟩ := vals_cons.mp h
    rcases List.mem_cons.mp hu with rfl | hu
    · exact h1
    · exact vals_mem h2 u hu
theorem el_ex {f : List (List Nat) → Nat → List (List Tr)} {k : List Nat} {i : Nat} {t : Tr} (h : t ∈ elF R M f k i) : ∃ r m ch, fdR R k = some r ∧ m ∈ M ∧ ch ∈ f r.inn i ∧ t = .el k m ch := by
  unfold elF at h
  cases hr : fdR R k with
  | none => rw [hr] at h; cases h
  | some r =>
    rw [hr] at h
    obtain ⟨ch, hc, h⟩ := List.mem_flatMap.mp h
    obtain ⟨m, hm, rfl⟩ := List.mem_map.mp h
    exact ⟨r, m, ch, rfl, hm, hc, rfl⟩
theorem szs_cons (t : Tr) (ts : List Tr) : szs (t :: ts) = sz t + szs ts := by rw [szs]
theorem rw_val : ∀ (g : Nat) (ks : List (List Nat)) (n : Nat) (ch : List Tr), ch ∈ rwF R M g ks n → szs ch = n ∧ Vals R M ks ch
  | 0, _, _, _, h => by cases h
  | _ + 1, _, 0, ch, h => by
    have : ch = [] := by simpa [rwF] using h
    rw [this]
    exact ⟨by rw [szs], vals_nil⟩
  | g + 1, ks, n + 1, ch, h => by
    rw [rwF] at h
    obtain ⟨i, hi, h⟩ := List.mem_flatMap.mp h
    obtain ⟨rest, hr, h⟩ := List.mem_flatMap.mp h
    obtain ⟨t, ht, rfl⟩ := List.mem_map.mp h
    have hi := List.mem_range.mp hi
    obtain ⟨a1, a2⟩ := rw_val g ks (n - i) rest hr
    obtain ⟨k, hk, ht⟩ := List.mem_flatMap.mp ht
    obtain ⟨r, m, c, hr1, hm, hc, rfl⟩ := el_ex ht
    obtain ⟨b1, b2⟩ := rw_val g r.inn i c hc
    refine ⟨?_, vals_cons.mpr ⟨val_el.mpr ⟨hk, hm, r, hr1, b2⟩, a2⟩⟩
    rw [szs_cons, sz_el]
    omega
theorem el_val {g : Nat} {k : List Nat} {i : Nat} {t : Tr} (h : t ∈ elF R M (rwF R M g) k i) : sz t = i + 1 ∧ Val R M [k] t ∧ kdT t = k ∧ isTx t = false := by
  obtain ⟨r, m, ch, hr, hm, hc, rfl⟩ := el_ex h
  obtain ⟨b1, b2⟩ := rw_val g r.inn i ch hc
  refine ⟨?_, val_el.mpr ⟨List.mem_singleton.mpr rfl, hm, r, hr, b2⟩, rfl, rfl⟩
  rw [sz_el]
  omega
structure ND (R : List GR) (M : List (List Nat)) : Prop where
  r : ∀ r ∈ R, r.inn.Nodup
  m : M.Nodup
theorem el_nd (h : ND R M) {f : List (List Nat) → Nat → List (List Tr)} {i : Nat} (hf : ∀ ks : List (List Nat), ks.Nodup → (f ks i).Nodup) (k : List Nat) : (elF R M f k i).Nodup := by
  unfold elF
  cases hr : fdR R k with
  | none => exact List.nodup_nil
  | some r =>
    dsimp only
    unfold List.Nodup
    rw [List.pairwise_flatMap]
    refine ⟨fun ch _ => ?_, (show List.Pairwise _ _ from hf r.inn (h.r r (fdR_some hr).1)).imp fun {a b} hab x hx y hy e => ?_⟩
    · rw [List.pairwise_map]
      exact (show List.Pairwise _ _ from h.m).imp fun {a b} hab e => hab (by injection e)
    · obtain ⟨m, _, rfl⟩ := List.mem_map.mp hx
      obtain ⟨m', _, rfl⟩ := List.mem_map.mp hy
      exact hab (by injection e)
theorem rw_nd (h : ND R M) : ∀ (g : Nat) (ks : List (List Nat)) (n : Nat), ks.Nodup → (rwF R M g ks n).Nodup
  | 0, _, _, _ => List.nodup_nil
  | _ + 1, _, 0, _ => by rw [rwF]; simp
  | g + 1, ks, n + 1, hk => by
    rw [rwF]
    unfold List.Nodup
    rw [List.pairwise_flatMap]
    refine ⟨fun i _ => ?_, (List.pairwise_lt_range (n := n + 1)).imp fun {i j} hij x hx y hy e => ?_⟩
    · rw [List.pairwise_flatMap]
      refine ⟨fun rest _ => ?_, (show List.Pairwise _ _ from rw_nd h g ks (n - i) hk).imp fun {a b} hab x hx y hy e => ?_⟩
      · rw [List.pairwise_map]
        have hh : (hdF R M (rwF R M g) ks i).Nodup := by
          unfold hdF List.Nodup
          rw [List.pairwise_flatMap]
          refine ⟨fun k _ => el_nd h (fun ks hk => rw_nd h g ks i hk) k, (show List.Pairwise _ _ from hk).imp fun {a b} hab x hx y hy e => ?_⟩
          obtain ⟨_, _, _, _, _, _, rfl⟩ := el_ex hx
          obtain ⟨_, _, _, _, _, _, rfl⟩ := el_ex hy
          exact hab (by injection e)
        exact (show List.Pairwise _ _ from hh).imp fun {a b} hab e => hab (by injection e)
      · obtain ⟨t, _, rfl⟩ := List.mem_map.mp hx
        obtain ⟨t', _, rfl⟩ := List.mem_map.mp hy
        exact hab (by injection e)
    · obtain ⟨rest, _, hx⟩ := List.mem_flatMap.mp hx
      obtain ⟨t, ht, rfl⟩ := List.mem_map.mp hx
      obtain ⟨rest', _, hy⟩ := List.mem_flatMap.mp hy
      obtain ⟨t', ht', rfl⟩ := List.mem_map.mp hy
      obtain ⟨k, _, ht⟩ := List.mem_flatMap.mp ht
      obtain ⟨k', _, ht'⟩ := List.mem_flatMap.mp ht'
      have e1 := (el_val ht).1
      have e2 := (el_val ht').1
      have e : t = t' := by injection e
      rw [e] at e1
      omega
mutual
theorem gd_all : ∀ (t : Tr) (ks : List (List Nat)) (p a : List Nat), Val R M ks t → (p = [] → kdT t = top) → (p ≠ [] → ∃ r, fdR R a = some r ∧ r.inn = ks) → ∀ x ∈ nP p a t, gdB top R x = true
  | .tx l, ks, p, a, h, _, _, _, _ => by rw [Val] at h; exact h.elim
  | .el k m ch, ks, p, a, h, h1, h2, x, hx => by
    obtain ⟨hk, hm, r, hr, hv⟩ := val_el.mp h
    rw [nP_el] at hx
    rcases List.mem_cons.mp hx with rfl | hx
    · by_cases hp : p = []
      · rw [gdB_r _ _ _ _ _ hp]
        exact decide_eq_true (h1 hp)
      · obtain ⟨r', hr', e⟩ := h2 hp
        rw [gdB_e _ _ _ _ _ _ _ hp hr', e]
        exact decide_eq_true hk
    · exact gd_alls ch r.inn p k 0 hv ⟨r, hr, rfl⟩ x hx
theorem gd_alls : ∀ (ts : List Tr) (ks : List (List Nat)) (p k : List Nat) (i : Nat), Vals R M ks ts → (∃ r, fdR R k = some r ∧ r.inn = ks) → ∀ x ∈ nPs p k i ts, gdB top R x = true
  | [], _, _, _, _, _, _, x, hx => by rw [nPs_nil] at hx; cases hx
  | t :: ts, ks, p, k, i, h, h1, x, hx => by
    obtain ⟨v1, v2⟩ := vals_cons.mp h
    rw [nPs_cons] at hx
    rcases List.mem_append.mp hx with hx | hx
    · exact gd_all t ks (p ++ [i]) k v1 (fun e => absurd e (by simp)) (fun _ => h1) x hx
    · exact gd_alls ts ks p k (i + 1) v2 h1 x hx
end
theorem check_eq (ok : GrOk top R) {T : Tr} (hv : Val R M [top] T) (hs : sz T ≤ 1000) : F_Grammar_check [grD top R, tD T] = .ok .non := by
  cases T with
  | tx l => rw [Val] at hv; exact hv.elim
  | el k m ch =>
    have hk := List.mem_singleton.mp (val_el.mp hv).1
    have hn : fbN top R (nP [] [] (.el k m ch)) = none := by
      unfold fbN
      rw [List.find?_eq_none]
      intro x hx
      rw [gd_all (.el k m ch) [top] [] [] hv (fun _ => hk) (fun z => absurd rfl z) x hx]
      simp
    exact Rs.eq ((check_sp ok hs rfl).impE (fun d h => h.1) fun n ns vs ⟨x, h, _⟩ => by rw [hn] at h; cases h)
theorem inB_T (a : List Nat) (ws : List (List Nat)) : inB (wD a) (.tup (ws.map wD)) = .ok (decide (a ∈ ws)) := by
  show inTup (wD a) (ws.map wD) = _
  unfold inTup inFlat
  rw [flatDs_w]
  show Res.ok (inV (V.str (Sg a)) (ws.map fun w => V.str (Sg w))) = _
  rw [inV_w]
theorem inB_L (a : List Nat) (ws : List (List Nat)) : inB (wD a) (.lst (ws.map wD)) = .ok (decide (a ∈ ws)) := by
  show inLst (wD a) (ws.map wD) = _
  unfold inLst inFlat
  rw [flatDs_w]
  show Res.ok (inV (V.str (Sg a)) (ws.map fun w => V.str (Sg w))) = _
  rw [inV_w]
theorem rs_ninWT {a : List Nat} {ws : List (List Nat)} {Q : D → Prop} {E : Str → List Str → List D → Prop} (q : Q (.bl (!decide (a ∈ ws)))) : Rs (ninD (wD a) (.tup (ws.map wD))) Q E := by
  unfold ninD
  rw [inB_T]
  exact q
theorem rs_ninWL {a : List Nat} {ws : List (List Nat)} {Q : D → Prop} {E : Str → List Str → List D → Prop} (q : Q (.bl (!decide (a ∈ ws)))) : Rs (ninD (wD a) (.lst (ws.map wD))) Q E := by
  unfold ninD
  rw [inB_L]
  exact q
abbrev zrR (t : D) (ks : List (List Nat)) (R : List GR) (M : List (List Nat)) (x4 x5 x6 : Option D) : Rho := [some t, some (.tup (ks.map wD)), some (tbD R), some (mkD M), x4, x5, x6]
theorem size_eq : ∀ (g : Nat) (t : Tr) (ks : List (List Nat)), sz t ≤ g → Val R M ks t → F_l_size g [tD t, .tup (ks.map wD), tbD R, mkD M] = .ok (.int (sz t : Int))
  | 0, t, _, h, _ => absurd (sz_pos t) (by omega)
  | g + 1, .tx l, _, _, h => by rw [Val] at h; exact h.elim
  | g + 1, .el k m ch, ks, hs, h => Rs.eq (by
    obtain ⟨hk, hm, r, hr, hv⟩ := val_el.mp h
    rw [tD_el, sz_el]
    rw [sz_el] at hs
    show Rs (runF 7 false (Fb_l_size (F_l_size g)) [.tup [wD k, wD m, .tup (ch.map tD)], .tup (ks.map wD), tbD R, mkD M]) _ _
    refine rs_run ?_
    unfold Fb_l_size
    obtain ⟨TD, hTD⟩ : ∃ TD, D.tup [wD k, wD m, .tup (ch.map tD)] = TD := ⟨_, rfl⟩
    have i0 : ∀ {Q : D → Prop} {E : Str → List Str → List D → Prop}, Q (wD k) → Rs (ixD TD (.int 0)) Q E := fun q => by rw [← hTD]; exact rs_ixT (d := wD k) (atI_nat (j := 0) rfl) q
    have i1 : ∀ {Q : D → Prop} {E : Str → List Str → List D → Prop}, Q (wD m) → Rs (ixD TD (.int 1)) Q E := fun q => by rw [← hTD]; exact rs_ixT (d := wD m) (atI_nat (j := 1) rfl) q
    have i2 : ∀ {Q : D → Prop} {E : Str → List Str → List D → Prop}, Q (.tup (ch.map tD)) → Rs (ixD TD (.int 2)) Q E := fun q => by rw [← hTD]; exact rs_ixT (d := .tup (ch.map tD)) (atI_nat (j := 2) rfl) q
    show Ss (seqF _ _ (zrR (.tup [wD k, wD m, .tup (ch.map tD)]) ks R M none none none)) _ _ _ _ _
    refine ss_seq (ss_cut (fun z => z = zrR TD ks R M none none none) ?_ ?_)
    · refine ss_if (rs_or (rs_not (rs_T (rs_un (rs_var rfl (rs_isi_tup_tuple (rs_asB ?_)))))))
      refine rs_or (rs_T (rs_op (rs_call (rs_cons (rs_var rfl (rs_nil (rs_lenT (rs_c (rs_neI (rs_asB ?_))))))))))
      refine rs_not (rs_T (rs_un (rs_op (rs_var rfl (rs_c (rs_ixT (d := .tup (ch.map tD)) (atI_nat (j := 2) rfl) (rs_isi_tup_tuple (rs_asB ?_))))))))
      rw [hTD]
      exact ⟨fun c => (by cases c), fun _ => ss_nx rfl⟩
    rintro _ rfl
    refine ss_seq (ss_cut (fun z => z = zrR TD ks R M none none none) ?_ ?_)
    · refine ss_if (rs_or (rs_not (rs_T (rs_un (rs_op (rs_var rfl (rs_c (i0 (rs_isi_str_str (rs_asB ?_))))))))))
      refine rs_or (rs_T (rs_op (rs_op (rs_var rfl (rs_c (i0 (rs_var rfl (rs_ninWT (rs_asB ?_)))))))))
      refine rs_or (rs_not (rs_T (rs_un (rs_op (rs_var rfl (rs_c (i1 (rs_isi_str_str (rs_asB ?_)))))))))
      refine rs_T (rs_op (rs_op (rs_var rfl (rs_c (i1 (rs_var (d := mkD M) rfl (rs_ninWL (rs_asB ?_))))))))
      rw [decide_eq_true hk, decide_eq_true hm]
      exact ⟨fun c => (by cases c), fun _ => ss_nx rfl⟩
    rintro _ rfl
    refine ss_seq (ss_set (rs_c ?_))
    refine ss_seq (ss_cut (fun z => ∃ x5 x6, z = zrR TD ks R M (some (.int ((1 + szs ch : Nat) : Int))) x5 x6) ?_ ?_)
    · refine ss_eachT tD ch (fun a z => ∃ x5 x6, z = zrR TD ks R M (some (.int ((1 + szs (ch.take a) : Nat) : Int))) x5 x6) (rs_op (rs_var rfl (rs_c (i2 rfl)))) ⟨none, none, by rw [List.take_zero, szs]; rfl⟩ ?_ ?_
      · rintro a u z ha ⟨x5, x6, rfl⟩
        have hum := List.mem_of_getElem? ha
        have hu := vals_mem hv u hum
        have hsz := len_szs ch
        have hus : sz u ≤ szs ch := by
          obtain ⟨l1, l2, rfl⟩ := List.append_of_mem hum
          have key : ∀ l : List Tr, sz u ≤ szs (l ++ u :: l2) := fun l => by
            induction l with
            | nil => rw [List.nil_append, szs_cons]; omega
            | cons c l ih => rw [List.cons_append, szs_cons]; omega
          exact key l1
        have hstep : szs (ch.take (a + 1)) = szs (ch.take a) + sz u := by
          rw [take_snoc ha]
          generalize ch.take a = l
          induction l with
          | nil => rw [List.nil_append, szs_cons, szs, Nat.zero_add, Nat.add_zero]
          | cons c l ih => rw [List.cons_append, szs_cons, szs_cons, ih]; omega
        rw [hstep]
        have hrec := size_eq g u r.inn (by omega) hu
        have hup := sz_pos u
        show Ss (Lp_l_size_1 (F_l_size g) (zrR TD ks R M (some (.int ((1 + szs (ch.take a) : Nat) : Int))) (some (tD u)) x6)) _ _ _ _ _
        unfold Lp_l_size_1
        refine ss_seq (ss_set (rs_call (rs_cons (rs_var rfl (rs_cons (rs_op (rs_op (rs_var (d := tbD R) rfl (rs_op (rs_var rfl (rs_c (i0 (rs_getR hr (rs_c (rs_ixT (d := .tup (r.inn.map wD)) (atI_nat (j := 1) rfl) (rs_cons (rs_var (d := tbD R) rfl (rs_cons (rs_var (d := mkD M) rfl (rs_nil (Rs.of hrec ?_)))))))))))))))))))))
        refine ss_seq (ss_if (rs_T (rs_op (rs_var rfl (rs_c (rs_eqI (rs_asB ⟨fun c => absurd (of_decide_eq_true c) (by omega), fun _ => ss_nx ?_⟩)))))))
        refine ss_set (rs_op (rs_var rfl (rs_var rfl (rs_add ⟨some (tD u), some (.int (sz u : Int)), ?_⟩))))
        rw [← Nat.add_assoc, Int.natCast_add (1 + szs (ch.take a)) (sz u)]
        rfl
      · rintro z ⟨x5, x6, rfl⟩
        rw [List.take_length]
        exact ⟨x5, x6, rfl⟩
    rintro _ ⟨x5, x6, rfl⟩
    exact ss_ret (rs_var rfl rfl))
end
end
section
mutual
def tP : Tr → PyData
  | .tx l => .str (Sg l)
  | .el k m ks => .tuple [.str (Sg k), .str (Sg m), .tuple (tPs ks)]
def tPs : List Tr → List PyData
  | [] => []
  | t :: ts => tP t :: tPs ts
end
theorem tP_tx (l : List Nat) : tP (.tx l) = .str (Sg l) := by rw [tP]
theorem tP_el (k m : List Nat) (ks : List Tr) : tP (.el k m ks) = .tuple [.str (Sg k), .str (Sg m), .tuple (tPs ks)] := by rw [tP]
theorem tPs_nil : tPs [] = [] := by rw [tPs]
theorem tPs_cons (t : Tr) (ts : List Tr) : tPs (t :: ts) = tP t :: tPs ts := by rw [tPs]
mutual
theorem toP_t : ∀ t : Tr, toP (tD t) = some (tP t)
  | .tx l => by rw [tD_tx, tP_tx, toP]
  | .el k m ks => by
    have e3 : toP (.tup (ks.map tD)) = some (.tuple (tPs ks)) := by rw [toP, toP_ts ks]; rfl
    have e1 : ∀ w, toP (wD w) = some (.str (Sg w)) := fun w => by unfold wD; rw [toP]
    rw [tD_el, tP_el, toP, toPs, toPs, toPs, toPs, e3, e1, e1]
    rfl
theorem toP_ts : ∀ ts : List Tr, toPs (ts.map tD) = some (tPs ts)
  | [] => by rw [tPs_nil, List.map_nil, toPs]
  | t :: ts => by rw [tPs_cons, List.map_cons, toPs, toP_t t, toP_ts ts]
end
mutual
theorem toPy_t : ∀ t : Tr, toPy (tD t) = some (tP t)
  | .tx l => by rw [tD_tx, tP_tx, toPy]
  | .el k m ks => by
    have e3 : toPy (.tup (ks.map tD)) = some (.tuple (tPs ks)) := by rw [toPy, toPy_ts ks]; rfl
    have e1 : ∀ w, toPy (wD w) = some (.str (Sg w)) := fun w => by unfold wD; rw [toPy]
    rw [tD_el, tP_el]
    exact toPy3 (e1 k) (e1 m) e3
theorem toPy_ts : ∀ ts : List Tr, toPyL (ts.map tD) = some (tPs ts)
  | [] => by rw [tPs_nil, List.map_nil, toPyL]
  | t :: ts => by rw [tPs_cons, List.map_cons, toPyL, toPy_t t, toPy_ts ts]
end
mutual
theorem dp_t : ∀ t : Tr, PyData.depth (tP t) ≤ 2 * sz t
  | .tx l => by
    have e : PyData.depth (tP (.tx l)) = 0 := by rw [tP_tx]; simp [PyData.depth]
    rw [e]
    exact Nat.zero_le _
  | .el k m ks => by
    have h := dp_ts ks
    rw [tP_el, sz_el]
    simp only [PyData.depth, PyData.depthAll]
    omega
theorem dp_ts : ∀ ts : List Tr, PyData.depthAll (tPs ts) ≤ 2 * szs ts
  | [] => by
    have e : PyData.depthAll (tPs []) = 0 := by rw [tPs_nil, PyData.depthAll]
    rw [e]
    exact Nat.zero_le _
  | t :: ts => by
    have h1 := dp_t t
    have h2 := dp_ts ts
    rw [tPs_cons, szs_cons]
    simp only [PyData.depthAll]
    omega
end
theorem enD_t (t : Tr) : enD (tD t) = tP t := by unfold enD; rw [toP_t]; rfl
section
variable {top : List Nat} {R : List GR} {M : List (List Nat)}
mutual
theorem al_t : ∀ (a b : Tr) (ks ks' : List (List Nat)), Val R M ks a → Val R M ks' b → PySem.W.alike (tP a) (tP b) = true
  | .tx _, _, _, _, h, _ => by rw [Val] at h; exact h.elim
  | .el _ _ _, .tx _, _, _, _, h => by rw [Val] at h; exact h.elim
  | .el k m ch, .el k' m' ch', ks, ks', h, h' => by
    obtain ⟨_, _, r, _, hv⟩ := val_el.mp h
    obtain ⟨_, _, r', _, hv'⟩ := val_el.mp h'
    have z := al_ts ch ch' r.inn r'.inn hv hv'
    rw [tP_el, tP_el]
    simp [PySem.W.alike, PySem.W.alikeAll, z]
theorem al_ts : ∀ (as bs : List Tr) (ks ks' : List (List Nat)), Vals R M ks as → Vals R M ks' bs → PySem.W.alikeAll (tPs as) (tPs bs) = true
  | [], _, _, _, _, _ => by rw [tPs_nil]; simp [PySem.W.alikeAll]
  | a :: as, [], _, _, _, _ => by rw [tPs_nil, tPs_cons]; simp [PySem.W.alikeAll]
  | a :: as, b :: bs, ks, ks', h, h' => by
    obtain ⟨h1, h2⟩ := vals_cons.mp h
    obtain ⟨h3, h4⟩ := vals_cons.mp h'
    rw [tPs_cons, tPs_cons]
    simp [PySem.W.alikeAll, al_t a b ks ks' h1 h3, al_ts as bs ks ks' h2 h4]
end
mutual
theorem eq_t : ∀ a b : Tr, PyData.eqv (tP a) (tP b) = true → a = b
  | .tx l, .tx l', h => by
    rw [tP_tx, tP_tx] at h
    simp [PyData.eqv] at h
    rw [h]
  | .tx l, .el k m ks, h => by rw [tP_tx, tP_el] at h; simp [PyData.eqv] at h
  | .el k m ks, .tx l, h => by rw [tP_tx, tP_el] at h; simp [PyData.eqv] at h
  | .el k m ks, .el k' m' ks', h => by
    rw [tP_el, tP_el] at h
    simp [PyData.eqv, PyData.eqvAll] at h
    obtain ⟨h1, h2, h3⟩ := h
    rw [h1, h2, eq_ts ks ks' h3]
theorem eq_ts : ∀ as bs : List Tr, PyData.eqvAll (tPs as) (tPs bs) = true → as = bs
  | [], [], _ => rfl
  | [], b :: bs, h => by rw [tPs_nil, tPs_cons] at h; simp [PyData.eqvAll] at h
  | a :: as, [], h => by rw [tPs_nil, tPs_cons] at h; simp [PyData.eqvAll] at h
  | a :: as, b :: bs, h => by
    rw [tPs_cons, tPs_cons] at h
    simp [PyData.eqvAll] at h
    rw [eq_t a b h.1, eq_ts as bs h.2]
end
theorem lex_more : ∀ (K : List (Int ⊕ List Nat)), PyProof.Rows.lexLt PyProof.Rows.itemOrd K (K ++ [Sum.inl 0]) = true
  | [] => rfl
  | x :: K => by rw [List.cons_append, PyProof.Rows.lex_self]; exact lex_more K
theorem toks_inj {x y : PyData} (h : PySem.W.alike x y = true) (e : PySem.W.keyToks x = PySem.W.keyToks y) : PyData.eqv x y = true := by
  cases q : PyData.eqv x y with
  | true => rfl
  | false =>
    have z := (PySem.W.toks_eqv x y h).2 q [] [Sum.inl 0]
    rw [e, List.append_nil, PyProof.Rows.lex_irrefl, lex_more] at z
    cases z
theorem lt_of_le {a b : Tr} {ks ks' : List (List Nat)} (ha : Val R M ks a) (hb : Val R M ks' b) (hle : PySem.W.dataLe false tP a b = true) (hne : a ≠ b) : PySem.W.dataLt (tP a) (tP b) = true := by
  have h1 : PySem.W.dataLt (tP b) (tP a) = false := by
    rw [PySem.W.dataLe_eq] at hle
    simpa using hle
  cases h2 : PySem.W.dataLt (tP a) (tP b) with
  | true => rfl
  | false => exact absurd (eq_t a b (toks_inj (al_t a b ks ks' ha hb) ((PyProof.Rows.listOrd PyProof.Rows.itemOrd).total _ _ h2 h1))) hne
def srT (L : List Tr) : List Tr := L.mergeSort (PySem.W.dataLe false tP)
theorem sort_tr (L : List Tr) : (L.map tD).mergeSort (PySem.W.dataLe false enD) = (srT L).map tD := by
  refine (PySem.W.sort_maps tD fun a _ b _ => ?_).symm
  rw [PySem.W.dataLe_eq, PySem.W.dataLe_eq]
  show (!PySem.W.dataLt (tP b) (tP a)) = (!PySem.W.dataLt (enD (tD b)) (enD (tD a)))
  rw [enD_t, enD_t]
theorem sr_perm (L : List Tr) : (srT L).Perm L := List.mergeSort_perm L _
theorem sr_lt {L : List Tr} {ks : List (List Nat)} (hv : ∀ t ∈ L, Val R M ks t) (hn : L.Nodup) : (srT L).Pairwise fun a b => PySem.W.dataLt (tP a) (tP b) = true := by
  have p1 := PySem.W.sort_pairwise (PySem.W.sortLe_total (PyProof.Rows.listOrd PyProof.Rows.itemOrd) false fun t => PySem.W.keyToks (tP t)) L
  have p2 : (srT L).Nodup := (sr_perm L).nodup_iff.mpr hn
  have hm : ∀ t ∈ srT L, Val R M ks t := fun t ht => hv t ((sr_perm L).mem_iff.mp ht)
  refine List.Pairwise.imp_of_mem ?_ (List.Pairwise.and p1 p2)
  intro a b ha hb hab
  exact lt_of_le (hm a ha) (hm b hb) hab.1 hab.2
theorem good_t {L : List Tr} {ks : List (List Nat)} (hv : ∀ t ∈ L, Val R M ks t) (hs : ∀ t ∈ L, sz t ≤ 5) : goodS (L.map tD) = true := by
  unfold goodS
  rw [Bool.and_eq_true]
  constructor
  · refine List.all_eq_true.mpr fun d hd => ?_
    obtain ⟨t, ht, rfl⟩ := List.mem_map.mp hd
    have hd := dp_t t
    have hz := hs t ht
    have hvt := hv t ht
    cases t with
    | tx l => rw [Val] at hvt; exact hvt.elim
    | el k m ch =>
      unfold isRow
      rw [toP_t, tP_el]
      show decide ((enD (tD (.el k m ch))).depth ≤ 24) = true
      rw [enD_t]
      exact decide_eq_true (by omega)
  · refine List.all_eq_true.mpr fun d hd => List.all_eq_true.mpr fun e he => ?_
    obtain ⟨t, ht, rfl⟩ := List.mem_map.mp hd
    obtain ⟨u, hu, rfl⟩ := List.mem_map.mp he
    rw [enD_t, enD_t]
    exact al_t t u ks ks (hv t ht) (hv u hu)
theorem rs_ltT {a b : Tr} {ks ks' : List (List Nat)} (ha : Val R M ks a) (hb : Val R M ks' b) (hs : sz a ≤ 5) (h : PySem.W.dataLt (tP a) (tP b) = true) {Q : D → Prop} {E : Str → List Str → List D → Prop} (q : Q (.bl true)) : Rs (ltDD (tD a) (tD b)) Q E := by
  refine rs_ltDD (toPy_t a) (toPy_t b) ?_ (by rw [h]; exact q)
  have hd := dp_t a
  unfold ltOk
  rw [Bool.and_eq_true, Bool.and_eq_true]
  refine ⟨⟨al_t a b ks ks' ha hb, ?_⟩, decide_eq_true (by omega)⟩
  cases a with
  | tx l => rw [tP_tx]
  | el k m ch => rw [tP_el]
theorem every_eq (h : RW R M) {r : GR} (hr : fdR R top = some r) {i : Nat} (hi : i < 5) : F_Grammar_every_tree [grD top R, .int ((i + 1 : Nat) : Int), mkD M] = .ok ((srT (E9 R M top i)).map tD) := Rs.eq (by
  have hel : elF R M (rwF R M 8) top i = E9 R M top i := elF_congr fun ks => rwF_eq 8 9 ks i (by omega) (by omega)
  have hv : ∀ t ∈ E9 R M top i, Val R M [top] t := fun t ht => (el_val ht).2.1
  have hs : ∀ t ∈ E9 R M top i, sz t ≤ 5 := fun t ht => by rw [(el_val ht).1]; omega
  refine rs_runG ?_
  unfold Fb_Grammar_every_tree
  show Gs (seqG _ _ [some (grD top R), some (.int ((i + 1 : Nat) : Int)), some (mkD M), none]) _
  refine gs_seq2 (gs_each tD (fun t => [tD t]) (srT (E9 R M top i)) (fun z => ∃ x3, z = [some (grD top R), some (.int ((i + 1 : Nat) : Int)), some (mkD M), x3]) ?_ ⟨none, rfl⟩ ?_ ?_)
  · refine rs_it (rs_call (rs_cons (rs_meth (rs_var (d := grD top R) rfl (rs_isObj (by decide) (rs_cons (rs_un (rs_var (d := grD top R) rfl (rs_fld (d := wD top) rfl (rs_cons (rs_var rfl (rs_cons (rs_var (d := mkD M) rfl (rs_nil ?_))))))))))))))
    refine Rs.of (elems_eq h (rows_eq h 8) hr (by omega) hi) (rs_nil ?_)
    rw [hel]
    show Rs (sortDatD false (.lst ((E9 R M top i).map tD))) _ _
    unfold sortDatD
    dsimp only
    rw [if_pos (good_t hv hs), sort_tr]
    exact rs_itsL (E := nE) rfl
  · rintro t _ z ⟨x3, rfl⟩
    refine ⟨_, rfl, ?_⟩
    show Gs (Gp_Grammar_every_tree_1 [some (grD top R), some (.int ((i + 1 : Nat) : Int)), some (mkD M), some (tD t)]) _
    unfold Gp_Grammar_every_tree_1
    exact gs_seq2 (gs_yield2 (rs_var (d := tD t) rfl ⟨rfl, gs_nil2 ⟨rfl, _, rfl⟩⟩))
  · rintro z ⟨x3, rfl⟩
    refine gs_nil2 ?_
    rw [List.append_nil, flat_one tD])
end
end
section
theorem strOk_of {w : List Nat} (h : ∀ c ∈ w, c < 1114112) : PyData.strOk (Sg w) = true := by
  unfold PyData.strOk
  rw [Array.all_eq_true']
  intro n hn
  have hn : n ∈ w := by simpa using hn
  have := h n hn
  simp
  omega
section
variable {top : List Nat} {R : List GR} {M : List (List Nat)}
def MkOk (M : List (List Nat)) : Prop := ∀ w ∈ M, ∀ c ∈ w, c < 1114112
theorem rs_neMk (hM : MkOk M) {Q : D → Prop} {E : Str → List Str → List D → Prop} (q : Q (.bl false)) : Rs (neD (mkD M) (mkD M)) Q E := by
  refine rs_neC (f := fun xs : List (List Nat) => D.lst (xs.map wD)) (a := M) (b := M) (cd_lst cd_str) (by decide) (fun w hw => strOk_of (hM w hw)) (fun w hw => strOk_of (hM w hw)) rfl ?_
  rw [decide_eq_true rfl]
  exact q
abbrev alR (top : List Nat) (R : List GR) (M : List (List Nat)) (i : Nat) (x5 x6 x7 x8 : Option D) : Rho := [some (grD top R), some (wD top), some (.lst (R.map rowD)), some (.int ((i + 1 : Nat) : Int)), some (mkD M), x5, x6, x7, x8]
theorem all_eq (ok : GrOk top R) (h : RW R M) (nd : ND R M) (hM : MkOk M) {i : Nat} (hi : i < 5) : F_l_all [grD top R, wD top, .lst (R.map rowD), .int ((i + 1 : Nat) : Int), mkD M] = .ok (.bl true) := Rs.eq (by
  obtain ⟨rt, hrt, het, _⟩ := ok.2.1
  have hr : fdR R top = some rt := by rw [← het]; exact fdR_mem ok.1 hrt
  have hev := every_eq h hr hi
  have hco := counts_eq h ok.1 ok.2.2.1
  have hel : (srT (E9 R M top i)).length = (E9 R M top i).length := (sr_perm _).length_eq
  have hlen : (E9 R M top i).length ≤ 3 * bN i := el_len h (fun ks hk => rw_len h 9 ks i hi hk) top
  have hb := bN_le i hi
  have hs16 := sz16
  have hv0 : ∀ t ∈ E9 R M top i, Val R M [top] t := fun t ht => (el_val ht).2.1
  have hlt := sr_lt hv0 (el_nd nd (fun ks hk => rw_nd nd 9 ks i hk) top)
  have hv : ∀ t ∈ srT (E9 R M top i), Val R M [top] t ∧ sz t = i + 1 := fun t ht => by
    have := el_val ((sr_perm _).mem_iff.mp ht)
    exact ⟨this.2.1, this.1⟩
  refine rs_run ?_
  unfold Fb_l_all
  show Ss (seqF _ _ (alR top R M i none none none none)) _ _ _ _ _
  refine ss_seq (ss_set (rs_call (rs_cons (rs_var rfl (rs_nil (Rs.of (table_eq ok.1 ok.2.2.1) ?_))))))
  refine ss_seq (ss_set (rs_call (rs_cons (rs_var (d := mkD M) rfl (rs_nil (rs_listL ?_))))))
  show Ss (seqF _ _ (alR top R M i (some (tbD R)) (some (mkD M)) none none)) _ _ _ _ _
  refine ss_seq (ss_cut (fun z => z = alR top R M i (some (tbD R)) (some (mkD M)) (some (.lst ((srT (E9 R M top i)).map tD))) none) ?_ ?_)
  · refine ss_set (rs_lg (rs_methGA (ns := ["root", "order", "entries"]) (vs := [wD top, .lst (R.map fun r => wD r.k), tbD R]) (rs_var rfl rfl) (by decide) ?_))
    refine rs_cons (rs_var rfl (rs_cons (rs_var (d := mkD M) rfl (rs_nil (Rs.of hev ⟨?_, rfl⟩)))))
    rw [List.length_map]
    omega
  rintro _ rfl
  refine ss_seq (ss_cut (fun z => z = alR top R M i (some (tbD R)) (some (mkD M)) (some (.lst ((srT (E9 R M top i)).map tD))) none) ?_ ?_)
  · refine ss_if (rs_or (rs_T (rs_op (rs_call (rs_cons (rs_var rfl (rs_nil (rs_lenL (rs_op (rs_call (rs_cons (rs_var rfl (rs_cons (rs_var (d := mkD M) rfl (rs_nil (Rs.of hco (rs_tup (rs_cons (rs_var (d := wD top) rfl (rs_cons (rs_var rfl (rs_nil ⟨Nat.le_of_ble_eq_true rfl, ?_⟩))))))))))))))))))))))
    refine rs_getCd (v := (E9 R M top i).length) (fun e he hek => ?_) ⟨_, es_in hi hrt, by rw [het]⟩ (rs_neI (rs_asB ?_))
    · rw [es_fv 5 e he, hek]
      rfl
    · rw [List.length_map, hel]
      refine rs_T (rs_op (rs_var (d := mkD M) rfl (rs_var (d := mkD M) rfl (rs_neMk hM (rs_asB ?_)))))
      refine ⟨fun c => ?_, fun _ => ss_nx rfl⟩
      simp at c
  rintro _ rfl
  generalize srT (E9 R M top i) = Ts at *
  refine ss_seq (ss_cut (fun z => ∃ x8, z = alR top R M i (some (tbD R)) (some (mkD M)) (some (.lst (Ts.map tD))) x8) ?_ ?_)
  · refine ss_rng Ts.length (fun _ z => ∃ x8, z = alR top R M i (some (tbD R)) (some (mkD M)) (some (.lst (Ts.map tD))) x8) ?_ (by omega) ⟨none, rfl⟩ ?_ ?_
    · array_get_dec
      rw [List.length_map]
    · rintro k z hk ⟨x8, rfl⟩
      have hT : Ts[k]? = some Ts[k] := List.getElem?_eq_getElem hk
      obtain ⟨v1, v2⟩ := hv _ (List.getElem_mem hk)
      have hsize := size_eq 8 Ts[k] [top] (by omega) v1
      have hchk := check_eq ok v1 (by omega)
      show Ss (Lp_l_all_1 (alR top R M i (some (tbD R)) (some (mkD M)) (some (.lst (Ts.map tD))) (some (.int (k : Int))))) _ _ _ _ _
      unfold Lp_l_all_1
      refine ss_seq (ss_cut (fun z => z = alR top R M i (some (tbD R)) (some (mkD M)) (some (.lst (Ts.map tD))) (some (.int (k : Int)))) ?_ ?_)
      · refine ss_if (rs_T (rs_op (rs_call (rs_cons (rs_op (rs_var rfl (rs_var rfl (rs_ixL (d := tD Ts[k]) (atI_nat (by rw [List.getElem?_map, hT]; rfl)) (rs_cons (rs_tup (rs_cons (rs_var (d := wD top) rfl (rs_nil ⟨Nat.le_of_ble_eq_true rfl, ?_⟩)))))))))))))
        refine rs_cons (rs_var (d := tbD R) rfl (rs_cons (rs_var (d := mkD M) rfl (rs_nil ?_))))
        refine Rs.of hsize (rs_var rfl (rs_neI (rs_asB ?_)))
        rw [v2]
        refine ⟨fun c => ?_, fun _ => ss_nx rfl⟩
        simp at c
      rintro _ rfl
      refine ss_seq (ss_cut (fun z => z = alR top R M i (some (tbD R)) (some (mkD M)) (some (.lst (Ts.map tD))) (some (.int (k : Int)))) ?_ ?_)
      · cases k with
        | zero => exact ss_if (rs_andc (rs_T (rs_op (rs_var rfl (rs_c (rs_gt (rs_asB ⟨fun c => absurd (of_decide_eq_true c) (by decide), fun _ => ⟨fun c => (by cases c), fun _ => ss_nx rfl⟩⟩)))))))
        | succ j =>
          have hj : Ts[j]? = some Ts[j] := List.getElem?_eq_getElem (by omega)
          obtain ⟨u1, u2⟩ := hv _ (List.getElem_mem (show j < Ts.length by omega))
          have hl := List.pairwise_iff_getElem.mp hlt j (j + 1) (by omega) hk (by omega)
          refine ss_if (rs_andc (rs_T (rs_op (rs_var rfl (rs_c (rs_gt (rs_asB ⟨fun _ => ?_, fun c => absurd (of_decide_eq_false c) (by omega)⟩)))))))
          refine rs_not (rs_T (rs_op (rs_op (rs_var rfl (rs_op (rs_var rfl (rs_c (rs_sub ?_))))))))
          rw [show ((j + 1 : Nat) : Int) - 1 = (j : Int) from by omega]
          refine rs_ixL (d := tD Ts[j]) (atI_nat (by rw [List.getElem?_map, hj]; rfl)) ?_
          refine rs_op (rs_var rfl (rs_var rfl (rs_ixL (d := tD Ts[j + 1]) (atI_nat (by rw [List.getElem?_map, hT]; rfl)) (rs_ltT u1 v1 (by omega) hl (rs_asB ?_)))))
          exact ⟨fun c => (by cases c), fun _ => ss_nx rfl⟩
      rintro _ rfl
      refine ss_if (rs_T (rs_op (rs_meth (rs_var (d := grD top R) rfl (rs_isObj (by decide) (rs_cons (rs_op (rs_var rfl (rs_var rfl (rs_ixL (d := tD Ts[k]) (atI_nat (by rw [List.getElem?_map, hT]; rfl)) (rs_nil (Rs.of hchk (rs_c (rs_isn (rs_asB ?_)))))))))))))))
      exact ⟨fun c => (by cases c), fun _ => ss_nx ⟨_, rfl⟩⟩
    · rintro z hz
      exact hz
  rintro _ ⟨x8, rfl⟩
  exact ss_ret (rs_c rfl))
end
end
section
def wDoc : List Nat := [100, 111, 99]
def UR : List GR := [⟨wDoc, wRt, [wHead, [112, 97, 114]]⟩, ⟨wHead, wHead, [[101, 109], [115, 101, 101]]⟩, ⟨[112, 97, 114], wBlock, [[101, 109], wNote, [102, 105, 103], [115, 101, 101]]⟩, ⟨[101, 109], wSpan, [[101, 109], [115, 101, 101]]⟩, ⟨wNote, wNote, [[101, 109]]⟩, ⟨[102, 105, 103], wFig, [[101, 109]]⟩, ⟨[115, 101, 101], wRef, []⟩]
theorem ur_ok : GrOk wDoc UR := by
  refine ⟨by decide, ⟨_, List.mem_cons_self .., rfl, rfl⟩, by decide, ?_⟩
  have : ∀ i < 7, ∀ r, UR[i]? = some r → r.ro ∈ ROLES ∧ r.inn.length ≤ 10 ∧ ∀ w ∈ r.inn, ∃ j, j < 7 ∧ ((UR[j]?.map fun r' => decide (r'.k = w) && mayB r.ro r'.ro) = some true) := by
    intro i hi r hr
    match i, hi, hr with
    | 0, _, hr => cases hr; decide
    | 1, _, hr => cases hr; decide
    | 2, _, hr => cases hr; decide
    | 3, _, hr => cases hr; decide
    | 4, _, hr => cases hr; decide
    | 5, _, hr => cases hr; decide
    | 6, _, hr => cases hr; decide
  intro r hr
  obtain ⟨i, hi⟩ := List.mem_iff_getElem?.mp hr
  obtain ⟨h1, h2, h3⟩ := this i (List.getElem?_eq_some_iff.mp hi).1 r hi
  refine ⟨h1, h2, fun w hw => ?_⟩
  obtain ⟨j, _, h⟩ := h3 w hw
  cases e : UR[j]? with
  | none => rw [e] at h; cases h
  | some r' =>
    rw [e] at h
    have h := Option.some.inj h
    rw [Bool.and_eq_true] at h
    exact ⟨r', List.mem_of_getElem? e, of_decide_eq_true h.1, h.2⟩
theorem usual_eq : F_l_usual [] = .ok (.lst (UR.map rowD)) := Rs.eq (by
  refine rs_run ?_
  unfold Fb_l_usual
  array_get_dec
  rfl)
structure GOk (top : List Nat) (R : List GR) : Prop where
  ok : GrOk top R
  nd : ∀ r ∈ R, r.inn.Nodup
  l : R.length ≤ 7
theorem GOk.rw {top : List Nat} {R : List GR} {M : List (List Nat)} (h : GOk top R) (hm : M.length ≤ 3) : RW R M := ⟨fun r hr => by
  obtain ⟨_, _, h3⟩ := h.ok.2.2.2 r hr
  have hl := h.l
  refine ⟨?_, fun w hw => ?_⟩
  · have := nodup_le (h.nd r hr) (K := R.map (·.k)) fun w hw => by
      obtain ⟨r', hr', rfl, _⟩ := h3 w hw
      exact List.mem_map_of_mem hr'
    rw [List.length_map] at this
    omega
  · obtain ⟨r', hr', rfl, _⟩ := h3 w hw
    exact ⟨r', fdR_mem h.ok.1 hr'⟩, hm⟩
theorem ur_gok : GOk wDoc UR := ⟨ur_ok, by decide, by decide⟩
theorem er_perm {α : Type} : ∀ {l : List α} {n : Nat} {x : α}, l[n]? = some x → (x :: l.eraseIdx n).Perm l
  | [], n, x, h => by simp at h
  | a :: l, 0, x, h => by
    have h : a = x := by simpa using h
    subst h
    exact List.Perm.refl _
  | a :: l, n + 1, x, h => by
    have h : l[n]? = some x := by simpa using h
    exact (List.Perm.swap a x (l.eraseIdx n)).trans ((er_perm h).cons a)
theorem er_map {α β : Type} (f : α → β) : ∀ (l : List α) (n : Nat), (l.map f).eraseIdx n = (l.eraseIdx n).map f
  | [], n => rfl
  | a :: l, 0 => rfl
  | a :: l, n + 1 => congrArg (f a :: ·) (er_map f l n)
theorem marks_step {W0 M W : List (List Nat)} {n : Nat} {x : List Nat} (h : (M ++ W).Perm W0) (hx : W[n]? = some x) : ((M ++ [x]) ++ W.eraseIdx n).Perm W0 := by
  rw [List.append_assoc]
  exact (List.Perm.append_left M (er_perm hx)).trans h
theorem wds_nd {ks : List (List Nat)} (hl : ks.length = 9) (hn : ∀ w ∈ ks, Nm w) (hd : ks.Nodup) {w7 w8 w0 : List Nat} (h7 : ks[7]? = some w7) (h8 : ks[8]? = some w8) (h0 : ks[0]? = some w0) : [[], w7, w8, w0].Nodup ∧ MkOk [[], w7, w8, w0] := by
  have n7 := hn _ (List.mem_of_getElem? h7)
  have n8 := hn _ (List.mem_of_getElem? h8)
  have n0 := hn _ (List.mem_of_getElem? h0)
  have ne : ∀ {w : List Nat}, Nm w → ¬ ([] : List Nat) = w := fun h e => by
    have := h.1
    rw [← e] at this
    simp at this
  have d78 : w7 ≠ w8 := fun e => by subst e; have := nd_ix hd h7 h8; omega
  have d70 : w7 ≠ w0 := fun e => by subst e; have := nd_ix hd h7 h0; omega
  have d80 : w8 ≠ w0 := fun e => by subst e; have := nd_ix hd h8 h0; omega
  refine ⟨?_, fun w hw c hc => ?_⟩
  · simp only [List.nodup_cons, List.mem_cons, List.not_mem_nil, or_false, not_or, List.nodup_nil, not_false_eq_true, and_true]
    exact ⟨⟨ne n7, ne n8, ne n0⟩, ⟨d78, d70⟩, d80⟩
  · simp only [List.mem_cons, List.not_mem_nil, or_false] at hw
    rcases hw with rfl | rfl | rfl | rfl
    · cases hc
    · have := n7.2.2 c hc; omega
    · have := n8.2.2 c hc; omega
    · have := n0.2.2 c hc; omega
theorem rs_all {top : List Nat} {R : List GR} {M : List (List Nat)} (hg : GOk top R) (hm : M.length ≤ 3) (hn : M.Nodup) (hM : MkOk M) {i : Nat} (hi : i < 5) {Q : D → Prop} {E : Str → List Str → List D → Prop} (q : Q (.bl true)) : Rs (F_l_all [grD top R, wD top, .lst (R.map rowD), .int ((i + 1 : Nat) : Int), mkD M]) Q E :=
  Rs.of (all_eq hg.ok (hg.rw hm) ⟨hg.nd, hn⟩ hM hi) q
end
section
abbrev lR (ns : List Int) (x1 x2 x3 x4 x5 x6 x7 x8 x9 x10 x11 x12 x13 x14 : Option D) : Rho := [some (.fz (ns.map D.int)), x1, x2, x3, x4, x5, x6, x7, x8, x9, x10, x11, x12, x13, x14]
theorem law_true (ns : List Int) (hns : ns.length ≤ 63) : F_law [.fz (ns.map D.int)] = .ok (.bl true) := Rs.eq (by
  refine rs_run ?_
  unfold Fb_law
  obtain ⟨_, e0, c0, rfl⟩ := (cell_sp ns hns 0 (by omega)).get
  obtain ⟨_, e1, c1, rfl⟩ := (cell_sp ns hns 1 (by omega)).get
  obtain ⟨_, e2, c2, rfl⟩ := (cell_sp ns hns 2 (by omega)).get
  obtain ⟨_, e3, c3, rfl⟩ := (cell_sp ns hns 3 (by omega)).get
  obtain ⟨_, e4, c4, rfl⟩ := (cell_sp ns hns 4 (by omega)).get
  obtain ⟨_, e5, c5, rfl⟩ := (cell_sp ns hns 5 (by omega)).get
  have cl : ∀ {k : Int} {d : D} {r : Rho} {Q : D → Prop} {E : Str → List Str → List D → Prop}, r[0]? = some (some (.fz (ns.map D.int))) → F_l_cell [.fz (ns.map D.int), .int k] = .ok d → Q d → Rs (dCall F_l_cell (dCons (dVar 0) (dCons (dC (.int k)) dNil)) r) Q E := fun h e q => rs_call (rs_cons (rs_var h (rs_cons (rs_c (rs_nil (Rs.of e q))))))
  obtain ⟨_, ek, ks, rfl, hkl, hkn, hkd⟩ := (kinds_sp c1).get
  show Ss (seqF _ _ (lR ns none none none none none none none none none none none none none none)) _ _ _ _ _
  refine ss_seq (ss_set (rs_call (rs_cons (cl rfl e1 (rs_cons (rs_c (rs_nil (Rs.of ek ?_))))))))
  show Ss (seqF _ _ (lR ns (some (.lst (ks.map wD))) none none none none none none none none none none none none none)) _ _ _ _ _
  obtain ⟨w7, h7⟩ : ∃ w, ks[7]? = some w := ⟨_, List.getElem?_eq_getElem (by omega)⟩
  obtain ⟨w8, h8⟩ : ∃ w, ks[8]? = some w := ⟨_, List.getElem?_eq_getElem (by omega)⟩
  obtain ⟨w0, h0⟩ : ∃ w, ks[0]? = some w := ⟨_, List.getElem?_eq_getElem (by omega)⟩
  have k7 : atI (ks.map wD) 7 = some (wD w7) := atI_nat (j := 7) (by rw [List.getElem?_map, h7]; rfl)
  have k8 : atI (ks.map wD) 8 = some (wD w8) := atI_nat (j := 8) (by rw [List.getElem?_map, h8]; rfl)
  have k0 : atI (ks.map wD) 0 = some (wD w0) := atI_nat (j := 0) (by rw [List.getElem?_map, h0]; rfl)
  obtain ⟨hnd0, hmk0⟩ := wds_nd hkl hkn hkd h7 h8 h0
  have m0 : 0 ≤ c3 % 6 := Int.emod_nonneg _ (by omega)
  have m1 : c3 % 6 < 6 := Int.emod_lt_of_pos _ (by omega)
  obtain ⟨m, hm⟩ := Int.eq_ofNat_of_zero_le m0
  rw [hm] at m1
  refine ss_seq (ss_cut (fun z => z = lR ns (some (.lst (ks.map wD))) (some (.int ((1 + m : Nat) : Int))) none none none none none none none none none none none none) ?_ ?_)
  · refine ss_set (rs_op (rs_c (rs_op (rs_call (rs_cons (cl rfl e3 (rs_nil (rs_int (rs_c (rs_mod (by omega) (rs_add ?_)))))))))))
    rw [hm, show (1 : Int) + (m : Int) = ((1 + m : Nat) : Int) by omega]
    rfl
  rintro _ rfl
  have hsl : (ks.take (1 + m)).length = 1 + m := by rw [List.length_take]; omega
  obtain ⟨_, eg, top, R, rfl, hRk, hgr, hin⟩ := (grammar_sp c0 (ks.take (1 + m)) (by omega) (by omega) (hkd.sublist (List.take_sublist _ _))).get
  have hRl : R.length = 1 + m := by rw [← hsl, ← hRk, List.length_map]
  have hgo : GOk top R := ⟨hgr, hin, by omega⟩
  refine ss_seq (ss_cut (fun z => z = lR ns (some (.lst (ks.map wD))) (some (.int ((1 + m : Nat) : Int))) (some (wD top)) (some (.lst (R.map rowD))) none none none none none none none none none none) ?_ ?_)
  · refine ss_asg (rs_call (rs_cons (cl rfl e0 (rs_cons (rs_sl (rs_var (d := .lst (ks.map wD)) rfl (rs_noP (rs_part (rs_var (d := .int ((1 + m : Nat) : Int)) rfl (rs_asI (rs_slL ?_)))))))))))
    rw [cut_take, ← List.map_take]
    exact rs_nil (Rs.of eg ⟨_, rfl, rfl⟩)
  rintro _ rfl
  refine ss_seq (ss_cut (fun z => z = lR ns (some (.lst (ks.map wD))) (some (.int ((1 + m : Nat) : Int))) (some (wD top)) (some (.lst (R.map rowD))) (some (wD wDoc)) (some (.lst (UR.map rowD))) none none none none none none none none) ?_ ?_)
  · exact ss_par (rs_c (rs_call (rs_nil (Rs.of usual_eq rfl))))
  rintro _ rfl
  refine ss_seq (ss_cut (fun z => ∃ (t1 t2 : List Nat) (R1 R2 : List GR), GOk t1 R1 ∧ GOk t2 R2 ∧ z = lR ns (some (.lst (ks.map wD))) (some (.int ((1 + m : Nat) : Int))) (some (wD t1)) (some (.lst (R1.map rowD))) (some (wD t2)) (some (.lst (R2.map rowD))) none none none none none none none none) ?_ ?_)
  · refine ss_if (rs_T (rs_op (rs_op (rs_call (rs_cons (cl rfl e5 (rs_nil (rs_int (rs_c (rs_mod (by omega) (rs_c (rs_eqI (rs_asB ⟨fun _ => ?_, fun _ => ss_nx ⟨top, wDoc, R, UR, hgo, ur_gok, rfl⟩⟩)))))))))))))
    refine ss_seq (ss_par (rs_var (d := wD top) rfl (rs_var (d := .lst (R.map rowD)) rfl ?_)))
    exact ss_par (rs_c (rs_call (rs_nil (Rs.of usual_eq ⟨wDoc, top, UR, R, ur_gok, hgo, rfl⟩))))
  rintro _ ⟨t1, t2, R1, R2, g1, g2, rfl⟩
  refine ss_seq (ss_cut (fun z => z = lR ns (some (.lst (ks.map wD))) (some (.int ((1 + m : Nat) : Int))) (some (wD t1)) (some (.lst (R1.map rowD))) (some (wD t2)) (some (.lst (R2.map rowD))) (some (.lst ([[], w7, w8, w0].map wD))) none none none none none none none) ?_ ?_)
  · exact ss_set (rs_lst (rs_cons (rs_c (rs_cons (rs_op (rs_var (d := .lst (ks.map wD)) rfl (rs_c (rs_ixL k7 (rs_cons (rs_op (rs_var (d := .lst (ks.map wD)) rfl (rs_c (rs_ixL k8 (rs_cons (rs_op (rs_var (d := .lst (ks.map wD)) rfl (rs_c (rs_ixL k0 (rs_nil ⟨Nat.le_of_ble_eq_true rfl, rfl⟩)))))))))))))))))))
  rintro _ rfl
  refine ss_seq (ss_cut (fun z => ∃ v0 v1 v2 v3, z = lR ns (some (.lst (ks.map wD))) (some (.int ((1 + m : Nat) : Int))) (some (wD t1)) (some (.lst (R1.map rowD))) (some (wD t2)) (some (.lst (R2.map rowD))) (some (.lst ([[], w7, w8, w0].map wD))) (some (iL [v0, v1, v2, v3])) none none none none none none ∧ (0 ≤ v0 ∧ v0 < 4) ∧ 0 ≤ v1 ∧ 0 ≤ v2 ∧ 0 ≤ v3) ?_ ?_)
  · refine ss_set (rs_call (rs_cons (cl rfl e2 (rs_cons (rs_lst (rs_cons (rs_c (rs_cons (rs_c (rs_cons (rs_c (rs_cons (rs_c (rs_nil ⟨Nat.le_of_ble_eq_true rfl, rs_nil ?_⟩))))))))))))))
    show Rs (F_l_row [.int c2, iL [4, 4, 4, 4]]) _ _
    refine row_of c2 [4, 4, 4, 4] ?_ (by decide) fun vs hf => ?_
    · intro l hl
      simp only [List.mem_cons, List.not_mem_nil, or_false] at hl
      omega
    obtain ⟨v0, _, rfl, a0, b0, hf⟩ := hf.cons
    obtain ⟨v1, _, rfl, a1, b1, hf⟩ := hf.cons
    obtain ⟨v2, _, rfl, a2, b2, hf⟩ := hf.cons
    obtain ⟨v3, _, rfl, a3, b3, hf⟩ := hf.cons
    cases hf.nil
    exact ⟨v0, v1, v2, v3, rfl, ⟨a0, b0⟩, a1, a2, a3⟩
  rintro _ ⟨v0, v1, v2, v3, rfl, ⟨a0, b0⟩, a1, a2, a3⟩
  refine ss_seq (ss_set (rs_lst (rs_nil ⟨Nat.zero_le _, ?_⟩)))
  obtain ⟨X, hX, hX3⟩ : ∃ X : Nat, atI [D.int 1, .int 2, .int 3, .int 0] v0 = some (.int (X : Int)) ∧ X ≤ 3 := by
    rcases (show v0 = 0 ∨ v0 = 1 ∨ v0 = 2 ∨ v0 = 3 by omega) with rfl | rfl | rfl | rfl
    · exact ⟨1, rfl, by decide⟩
    · exact ⟨2, rfl, by decide⟩
    · exact ⟨3, rfl, by decide⟩
    · exact ⟨0, rfl, by decide⟩
  obtain ⟨ps, hps, hpl, hpp⟩ : ∃ ps : List Int, ([v0, v1, v2, v3].take (1 + X)).drop 1 = ps ∧ ps.length ≤ 3 ∧ ∀ p ∈ ps, 0 ≤ p := by
    refine ⟨_, rfl, ?_, fun p hp => ?_⟩
    · rw [List.length_drop, List.length_take]
      simp only [List.length_cons, List.length_nil]
      omega
    · have hp := List.mem_of_mem_take (List.mem_of_mem_drop hp)
      simp only [List.mem_cons, List.not_mem_nil, or_false] at hp
      rcases hp with rfl | rfl | rfl | rfl <;> assumption
  refine ss_seq (ss_cut (fun z => ∃ (M W : List (List Nat)) (x10 : Option D), z = lR ns (some (.lst (ks.map wD))) (some (.int ((1 + m : Nat) : Int))) (some (wD t1)) (some (.lst (R1.map rowD))) (some (wD t2)) (some (.lst (R2.map rowD))) (some (.lst (W.map wD))) (some (iL [v0, v1, v2, v3])) (some (.lst (M.map wD))) x10 none none none none ∧ (M ++ W).Perm [[], w7, w8, w0] ∧ M.length ≤ 3) ?_ ?_)
  · refine ss_each D.int ps (fun i z => ∃ (M W : List (List Nat)) (x10 : Option D), z = lR ns (some (.lst (ks.map wD))) (some (.int ((1 + m : Nat) : Int))) (some (wD t1)) (some (.lst (R1.map rowD))) (some (wD t2)) (some (.lst (R2.map rowD))) (some (.lst (W.map wD))) (some (iL [v0, v1, v2, v3])) (some (.lst (M.map wD))) x10 none none none none ∧ (M ++ W).Perm [[], w7, w8, w0] ∧ M.length ≤ i) ?_ ⟨[], _, none, rfl, List.Perm.refl _, Nat.le_refl _⟩ ?_ ?_
    · refine rs_sl (rs_var (d := iL [v0, v1, v2, v3]) rfl (rs_part (rs_c (rs_asI (rs_part (rs_op (rs_c (rs_op (rs_lst (rs_cons (rs_c (rs_cons (rs_c (rs_cons (rs_c (rs_cons (rs_c (rs_nil ⟨Nat.le_of_ble_eq_true rfl, ?_⟩))))))))))))))))))
      refine rs_op (rs_var (d := iL [v0, v1, v2, v3]) rfl (rs_c (rs_ixL (d := .int v0) (atI_nat (j := 0) rfl) (rs_ixL hX (rs_add (rs_asI (rs_slL ?_)))))))
      show D.lst (cutL ([v0, v1, v2, v3].map D.int) (some ((1 : Nat) : Int)) (some (1 + (X : Int)))) = _
      rw [show (1 : Int) + (X : Int) = ((1 + X : Nat) : Int) by omega, cut_mid, ← List.map_take, ← List.map_drop, hps]
    · rintro i p z hi ⟨M, W, x10, rfl, hp, hMl⟩
      have hpp := hpp p (List.mem_of_getElem? hi)
      have hil := (List.getElem?_eq_some_iff.mp hi).1
      have hWl : M.length + W.length = 4 := by
        have := hp.length_eq
        rw [List.length_append] at this
        exact this
      obtain ⟨n, hn, hnl⟩ : ∃ n : Nat, p % (W.length : Int) = (n : Int) ∧ n < W.length := by
        have q1 := Int.emod_nonneg p (show (W.length : Int) ≠ 0 by omega)
        have q2 := Int.emod_lt_of_pos p (show 0 < (W.length : Int) by omega)
        exact ⟨(p % (W.length : Int)).toNat, by omega, by omega⟩
      obtain ⟨x, hx⟩ : ∃ x, W[n]? = some x := ⟨_, List.getElem?_eq_getElem hnl⟩
      show Ss (Lp_law_1 (lR ns (some (.lst (ks.map wD))) (some (.int ((1 + m : Nat) : Int))) (some (wD t1)) (some (.lst (R1.map rowD))) (some (wD t2)) (some (.lst (R2.map rowD))) (some (.lst (W.map wD))) (some (iL [v0, v1, v2, v3])) (some (.lst (M.map wD))) (some (.int p)) none none none none)) _ _ _ _ _
      unfold Lp_law_1
      refine ss_appPop (n := n) (xs := M.map wD) (ys := W.map wD) (y := wD x) (by decide) rfl rfl ?_ (by omega) (by rw [List.getElem?_map, hx]; rfl) ?_ ?_
      · refine rs_op (rs_call (rs_cons (rs_var (d := .int p) rfl (rs_nil (rs_int (rs_call (rs_cons (rs_var (d := .lst (W.map wD)) rfl (rs_nil (rs_lenL ?_))))))))))
        rw [List.length_map]
        refine rs_mod (by omega) ?_
        rw [hn]
      · rw [List.length_map]
        exact Nat.lt_of_lt_of_le (show M.length < 100000 by omega) sz5
      · refine ⟨M ++ [x], W.eraseIdx n, some (.int p), ?_, marks_step hp hx, by rw [List.length_append]; show _ + 1 ≤ _; omega⟩
        rw [er_map, List.map_append]
        rfl
    · rintro z ⟨M, W, x10, rfl, hp, hMl⟩
      exact ⟨M, W, x10, rfl, hp, by omega⟩
  rintro _ ⟨M, W, x10, rfl, hp, hMl⟩
  have hMn : M.Nodup := (List.nodup_append.mp (hp.nodup_iff.mpr hnd0)).1
  have hMk : MkOk M := fun w hw => hmk0 w (hp.mem_iff.mp (List.mem_append_left _ hw))
  refine ss_seq (ss_set (rs_call (rs_cons (rs_var (d := wD t1) rfl (rs_cons (rs_call (rs_cons (rs_var (d := .lst (R1.map rowD)) rfl (rs_nil (rs_listL (rs_nil (Rs.of (gram_eq g1.ok) ?_))))))))))))
  refine ss_seq (ss_set (rs_call (rs_cons (rs_var (d := wD t2) rfl (rs_cons (rs_call (rs_cons (rs_var (d := .lst (R2.map rowD)) rfl (rs_nil (rs_listL (rs_nil (Rs.of (gram_eq g2.ok) ?_))))))))))))
  refine ss_seq (ss_set (rs_call (rs_cons (rs_var (d := .lst (R1.map rowD)) rfl (rs_cons (rs_var (d := mkD M) rfl (rs_nil (Rs.of (counts_eq (g1.rw hMl) g1.ok.1 g1.ok.2.2.1) ?_))))))))
  have n0 : 0 ≤ c4 % 5 := Int.emod_nonneg _ (by omega)
  have n1 : c4 % 5 < 5 := Int.emod_lt_of_pos _ (by omega)
  obtain ⟨n, hn⟩ := Int.eq_ofNat_of_zero_le n0
  rw [hn] at n1
  show Ss (seqF _ _ (lR ns (some (.lst (ks.map wD))) (some (.int ((1 + m : Nat) : Int))) (some (wD t1)) (some (.lst (R1.map rowD))) (some (wD t2)) (some (.lst (R2.map rowD))) (some (.lst (W.map wD))) (some (iL [v0, v1, v2, v3])) (some (mkD M)) x10 (some (grD t1 R1)) (some (grD t2 R2)) (some (cdD (esF R1 M 5))) none)) _ _ _ _ _
  refine ss_seq (ss_cut (fun z => ∃ x14, z = lR ns (some (.lst (ks.map wD))) (some (.int ((1 + m : Nat) : Int))) (some (wD t1)) (some (.lst (R1.map rowD))) (some (wD t2)) (some (.lst (R2.map rowD))) (some (.lst (W.map wD))) (some (iL [v0, v1, v2, v3])) (some (mkD M)) x10 (some (grD t1 R1)) (some (grD t2 R2)) (some (cdD (esF R1 M 5))) x14) ?_ ?_)
  · refine ss_rng2 1 (2 + n) (fun _ z => ∃ x14, z = lR ns (some (.lst (ks.map wD))) (some (.int ((1 + m : Nat) : Int))) (some (wD t1)) (some (.lst (R1.map rowD))) (some (wD t2)) (some (.lst (R2.map rowD))) (some (.lst (W.map wD))) (some (iL [v0, v1, v2, v3])) (some (mkD M)) x10 (some (grD t1 R1)) (some (grD t2 R2)) (some (cdD (esF R1 M 5))) x14) (rs_c rfl) ?_ (by omega) (by omega) ⟨none, rfl⟩ ?_ ?_
    · refine rs_op (rs_c (rs_op (rs_call (rs_cons (cl rfl e4 (rs_nil (rs_int (rs_c (rs_mod (by omega) (rs_add ?_))))))))))
      rw [hn, show (2 : Int) + (n : Int) = ((2 + n : Nat) : Int) by omega]
    · rintro i z hi ⟨x14, rfl⟩
      have hi5 : i < 5 := by omega
      obtain ⟨rt, hrt, het, _⟩ := g1.ok.2.1
      show Ss (Lp_law_2 (lR ns (some (.lst (ks.map wD))) (some (.int ((1 + m : Nat) : Int))) (some (wD t1)) (some (.lst (R1.map rowD))) (some (wD t2)) (some (.lst (R2.map rowD))) (some (.lst (W.map wD))) (some (iL [v0, v1, v2, v3])) (some (mkD M)) x10 (some (grD t1 R1)) (some (grD t2 R2)) (some (cdD (esF R1 M 5))) (some (.int ((1 + i : Nat) : Int))))) _ _ _ _ _
      rw [show 1 + i = i + 1 from by omega]
      unfold Lp_law_2
      refine ss_seq (ss_if (rs_T (rs_op (rs_op (rs_var (d := cdD (esF R1 M 5)) rfl (rs_tup (rs_cons (rs_var (d := wD t1) rfl (rs_cons (rs_var rfl (rs_nil ⟨Nat.le_of_ble_eq_true rfl, ?_⟩)))))))))))
      refine rs_getCd (v := (E9 R1 M t1 i).length) (fun e he hek => ?_) ⟨_, es_in hi5 hrt, by rw [het]⟩ (rs_c (rs_gt (rs_asB ⟨fun _ => ss_bk ⟨_, rfl⟩, fun _ => ss_nx ?_⟩)))
      · rw [es_fv 5 e he, hek]
        rfl
      refine ss_if (rs_not (rs_T (rs_call (rs_cons (rs_var (d := grD t1 R1) rfl (rs_cons (rs_var (d := wD t1) rfl (rs_cons (rs_var (d := .lst (R1.map rowD)) rfl (rs_cons (rs_var rfl (rs_cons (rs_var (d := mkD M) rfl (rs_nil (rs_all g1 hMl hMn hMk hi5 (rs_asB ?_))))))))))))))))
      exact ⟨fun c => (by cases c), fun _ => ss_nx ⟨_, rfl⟩⟩
    · rintro z hz
      exact hz
  rintro _ ⟨x14, rfl⟩
  refine ss_seq (ss_if (rs_not (rs_T (rs_call (rs_cons (rs_var (d := grD t2 R2) rfl (rs_cons (rs_var (d := wD t2) rfl (rs_cons (rs_var (d := .lst (R2.map rowD)) rfl (rs_cons (rs_c (rs_cons (rs_var (d := mkD M) rfl (rs_nil (rs_all (i := 1) g2 hMl hMn hMk (by decide) (rs_asB ?_)))))))))))))))))
  refine ⟨fun c => (by cases c), fun _ => ss_nx ?_⟩
  exact ss_ret (rs_call (rs_cons (rs_var (d := grD t1 R1) rfl (rs_cons (rs_var (d := wD t1) rfl (rs_cons (rs_var (d := .lst (R1.map rowD)) rfl (rs_cons (rs_c (rs_cons (rs_var (d := mkD M) rfl (rs_nil (rs_all (i := 0) g1 hMl hMn hMk (by decide) rfl))))))))))))))
end
end Lk
end S_MM_ta
section S_P_walk
set_option Elab.async false
set_option linter.all false
set_option maxRecDepth 100000
set_option maxHeartbeats 4000000
namespace Lk
open PySem L2 Dx
def topS (i : Nat) : Stmt := PySem.Challenge.pw_laidforall_k07_whole_every_tree.main.body.getD i (.Pass ⟨0, 0, 0, 0⟩)
abbrev s_all_nodes : Stmt := topS 9
theorem sc_all_nodes : GScope ["tree", "left", "place", "node", "index"] ["tree"] (defScope s_all_nodes) := ⟨rfl, rfl, rfl, by decide +kernel, rfl, by decide +kernel, by decide +kernel⟩
theorem nc_all_nodes : NoCell (defScope s_all_nodes) := by unfold NoCell; decide +kernel
abbrev s_node_at : Stmt := topS 10
theorem sc_node_at : FnScope ["tree", "place", "node", "index"] ["tree", "place"] (defScope s_node_at) := ⟨rfl, rfl, rfl, by decide +kernel, rfl, by decide +kernel, by decide +kernel⟩
abbrev s_Grammar_check_inner : Stmt := inClass (topS 14) 1
theorem sc_Grammar_check_inner : FnScope ["self", "kind", "role", "inner", "other"] ["self", "kind"] (defScope s_Grammar_check_inner) := ⟨rfl, rfl, rfl, by decide +kernel, rfl, by decide +kernel, by decide +kernel⟩
abbrev s_Grammar_init : Stmt := inClass (topS 14) 0
theorem sc_Grammar_init : FnScope ["self", "root", "rows", "kind", "role", "inner", "self.order", "self.entries"] ["self", "root", "rows"] (defScope s_Grammar_init) := ⟨rfl, rfl, rfl, by decide +kernel, rfl, by decide +kernel, by decide +kernel⟩
abbrev s_Grammar_may_stand : Stmt := inClass (topS 14) 7
theorem sc_Grammar_may_stand : FnScope ["self", "tree", "place", "node", "role", "inner"] ["self", "tree", "place", "node"] (defScope s_Grammar_may_stand) := ⟨rfl, rfl, rfl, by decide +kernel, rfl, by decide +kernel, by decide +kernel⟩
abbrev s_Grammar_check : Stmt := inClass (topS 14) 8
theorem sc_Grammar_check : FnScope ["self", "tree", "place", "node"] ["self", "tree"] (defScope s_Grammar_check) := ⟨rfl, rfl, rfl, by decide +kernel, rfl, by decide +kernel, by decide +kernel⟩
abbrev s_Grammar_elements_of : Stmt := inClass (topS 14) 10
theorem sc_Grammar_elements_of : FnScope ["self", "kind", "many", "marks", "found", "children", "mark"] ["self", "kind", "many", "marks"] (defScope s_Grammar_elements_of) := ⟨rfl, rfl, rfl, by decide +kernel, rfl, by decide +kernel, by decide +kernel⟩
abbrev s_Grammar_rows_of : Stmt := inClass (topS 14) 9
theorem sc_Grammar_rows_of : FnScope ["self", "kinds", "many", "marks", "found", "size", "heads", "kind", "rest", "head"] ["self", "kinds", "many", "marks"] (defScope s_Grammar_rows_of) := ⟨rfl, rfl, rfl, by decide +kernel, rfl, by decide +kernel, by decide +kernel⟩
abbrev s_Grammar_every_tree : Stmt := inClass (topS 14) 11
theorem sc_Grammar_every_tree : GScope ["self", "many", "marks", "tree"] ["self", "many", "marks"] (defScope s_Grammar_every_tree) := ⟨rfl, rfl, rfl, by decide +kernel, rfl, by decide +kernel, by decide +kernel⟩
theorem nc_Grammar_every_tree : NoCell (defScope s_Grammar_every_tree) := by unfold NoCell; decide +kernel
abbrev s_l_cell : Stmt := topS 16
theorem sc_l_cell : FnScope ["_law_script", "_law_k", "_law_number"] ["_law_script", "_law_k"] (defScope s_l_cell) := ⟨rfl, rfl, rfl, by decide +kernel, rfl, by decide +kernel, by decide +kernel⟩
abbrev s_l_row : Stmt := topS 17
theorem sc_l_row : FnScope ["_law_cell_here", "_law_limits", "_law_row_here", "_law_rest", "_law_k", "_law_mixed"] ["_law_cell_here", "_law_limits"] (defScope s_l_row) := ⟨rfl, rfl, rfl, by decide +kernel, rfl, by decide +kernel, by decide +kernel⟩
abbrev s_l_names : Stmt := topS 18
theorem sc_l_names : FnScope ["_law_cell_here", "_law_many", "_law_letters", "_law_row_here", "_law_names_here", "_law_k", "_law_word", "_law_pick", "_law_first", "_law_at", "_law_letter"] ["_law_cell_here", "_law_many"] (defScope s_l_names) := ⟨rfl, rfl, rfl, by decide +kernel, rfl, by decide +kernel, by decide +kernel⟩
abbrev s_l_kinds : Stmt := topS 19
theorem sc_l_kinds : FnScope ["_law_cell_here", "_law_many", "_law_kinds_here", "_law_word", "_law_letter"] ["_law_cell_here", "_law_many"] (defScope s_l_kinds) := ⟨rfl, rfl, rfl, by decide +kernel, rfl, by decide +kernel, by decide +kernel⟩
abbrev s_l_may : Stmt := topS 20
theorem sc_l_may : FnScope ["_law_outer", "_law_inner"] ["_law_outer", "_law_inner"] (defScope s_l_may) := ⟨rfl, rfl, rfl, by decide +kernel, rfl, by decide +kernel, by decide +kernel⟩
abbrev s_l_grammar : Stmt := topS 21
theorem sc_l_grammar : FnScope ["_law_cell_here", "_law_kinds_here", "_law_many", "_law_row_here", "_law_menu", "_law_roles", "_law_k", "_law_rows", "_law_bits", "_law_inner", "_law_j", "_law_at"] ["_law_cell_here", "_law_kinds_here"] (defScope s_l_grammar) := ⟨rfl, rfl, rfl, by decide +kernel, rfl, by decide +kernel, by decide +kernel⟩
abbrev s_l_usual : Stmt := topS 22
theorem sc_l_usual : FnScope [] [] (defScope s_l_usual) := ⟨rfl, rfl, rfl, by decide +kernel, rfl, by decide +kernel, by decide +kernel⟩
abbrev s_l_table : Stmt := topS 23
theorem sc_l_table : FnScope ["_law_rows", "_law_table_here", "_law_row_here"] ["_law_rows"] (defScope s_l_table) := ⟨rfl, rfl, rfl, by decide +kernel, rfl, by decide +kernel, by decide +kernel⟩
abbrev s_l_ways : Stmt := topS 24
theorem sc_l_ways : FnScope ["_law_kinds_here", "_law_many", "_law_counts_here", "_law_ways_here", "_law_total", "_law_found", "_law_size_here", "_law_kind"] ["_law_kinds_here", "_law_many", "_law_counts_here"] (defScope s_l_ways) := ⟨rfl, rfl, rfl, by decide +kernel, rfl, by decide +kernel, by decide +kernel⟩
abbrev s_l_counts : Stmt := topS 25
theorem sc_l_counts : FnScope ["_law_rows", "_law_marks", "_law_counts_here", "_law_size_here", "_law_row_here"] ["_law_rows", "_law_marks"] (defScope s_l_counts) := ⟨rfl, rfl, rfl, by decide +kernel, rfl, by decide +kernel, by decide +kernel⟩
abbrev s_l_size : Stmt := topS 26
theorem sc_l_size : FnScope ["_law_node", "_law_kinds_here", "_law_table_here", "_law_marks", "_law_size_here", "_law_child", "_law_inner"] ["_law_node", "_law_kinds_here", "_law_table_here", "_law_marks"] (defScope s_l_size) := ⟨rfl, rfl, rfl, by decide +kernel, rfl, by decide +kernel, by decide +kernel⟩
abbrev s_l_all : Stmt := topS 27
theorem sc_l_all : FnScope ["_law_grammar_here", "_law_top", "_law_rows", "_law_size_here", "_law_marks", "_law_table_here", "_law_passed", "_law_trees", "_law_k"] ["_law_grammar_here", "_law_top", "_law_rows", "_law_size_here", "_law_marks"] (defScope s_l_all) := ⟨rfl, rfl, rfl, by decide +kernel, rfl, by decide +kernel, by decide +kernel⟩
abbrev s_law : Stmt := topS 28
theorem sc_law : FnScope ["_law_script", "_law_kinds_here", "_law_many", "_law_top", "_law_rows", "_law_other_top", "_law_other_rows", "_law_menu", "_law_picks", "_law_marks", "_law_pick", "_law_grammar_here", "_law_other", "_law_counts_here", "_law_size_here"] ["_law_script"] (defScope s_law) := ⟨rfl, rfl, rfl, by decide +kernel, rfl, by decide +kernel, by decide +kernel⟩
abbrev s_Misfit : Stmt := inClass (topS 6) 0
theorem sc_Misfit : FnScope ["self", "kind"] ["self", "kind"] (defScope s_Misfit) := ⟨rfl, rfl, rfl, by decide +kernel, rfl, by decide +kernel, by decide +kernel⟩
abbrev s_NoPlace : Stmt := inClass (topS 3) 0
theorem sc_NoPlace : FnScope ["self", "place"] ["self", "place"] (defScope s_NoPlace) := ⟨rfl, rfl, rfl, by decide +kernel, rfl, by decide +kernel, by decide +kernel⟩
abbrev s_Strange : Stmt := inClass (topS 7) 0
theorem sc_Strange : FnScope ["self", "place"] ["self", "place"] (defScope s_Strange) := ⟨rfl, rfl, rfl, by decide +kernel, rfl, by decide +kernel, by decide +kernel⟩
abbrev s_Taken : Stmt := inClass (topS 4) 0
theorem sc_Taken : FnScope ["self", "kind"] ["self", "kind"] (defScope s_Taken) := ⟨rfl, rfl, rfl, by decide +kernel, rfl, by decide +kernel, by decide +kernel⟩
abbrev s_Unknown : Stmt := inClass (topS 5) 0
theorem sc_Unknown : FnScope ["self", "kind"] ["self", "kind"] (defScope s_Unknown) := ⟨rfl, rfl, rfl, by decide +kernel, rfl, by decide +kernel, by decide +kernel⟩
structure Txt (w : World) (K : PySem.W.Frag) (mg : Str → Option Value) where
  f_all_nodes : Addr
  fd_all_nodes : FuncData
  F_all_nodes : Fun K "all_nodes" "all_nodes" s_all_nodes f_all_nodes fd_all_nodes
  g_all_nodes : mg "all_nodes" = some (.ref f_all_nodes)
  b_all_nodes : L2.Binds K fd_all_nodes ["tree"] []
  f_node_at : Addr
  fd_node_at : FuncData
  F_node_at : Fun K "node_at" "node_at" s_node_at f_node_at fd_node_at
  g_node_at : mg "node_at" = some (.ref f_node_at)
  b_node_at : L2.Binds K fd_node_at ["tree", "place"] []
  f_Grammar_check_inner : Addr
  fd_Grammar_check_inner : FuncData
  F_Grammar_check_inner : Fun K "check_inner" "Grammar.check_inner" s_Grammar_check_inner f_Grammar_check_inner fd_Grammar_check_inner
  b_Grammar_check_inner : L2.Binds K fd_Grammar_check_inner ["self", "kind"] []
  f_Grammar_init : Addr
  fd_Grammar_init : FuncData
  F_Grammar_init : Fun K "__init__" "Grammar.__init__" s_Grammar_init f_Grammar_init fd_Grammar_init
  b_Grammar_init : L2.Binds K fd_Grammar_init ["self", "root", "rows"] []
  f_Grammar_may_stand : Addr
  fd_Grammar_may_stand : FuncData
  F_Grammar_may_stand : Fun K "may_stand" "Grammar.may_stand" s_Grammar_may_stand f_Grammar_may_stand fd_Grammar_may_stand
  b_Grammar_may_stand : L2.Binds K fd_Grammar_may_stand ["self", "tree", "place", "node"] []
  f_Grammar_check : Addr
  fd_Grammar_check : FuncData
  F_Grammar_check : Fun K "check" "Grammar.check" s_Grammar_check f_Grammar_check fd_Grammar_check
  b_Grammar_check : L2.Binds K fd_Grammar_check ["self", "tree"] []
  f_Grammar_elements_of : Addr
  fd_Grammar_elements_of : FuncData
  F_Grammar_elements_of : Fun K "elements_of" "Grammar.elements_of" s_Grammar_elements_of f_Grammar_elements_of fd_Grammar_elements_of
  b_Grammar_elements_of : L2.Binds K fd_Grammar_elements_of ["self", "kind", "many", "marks"] []
  f_Grammar_rows_of : Addr
  fd_Grammar_rows_of : FuncData
  F_Grammar_rows_of : Fun K "rows_of" "Grammar.rows_of" s_Grammar_rows_of f_Grammar_rows_of fd_Grammar_rows_of
  b_Grammar_rows_of : L2.Binds K fd_Grammar_rows_of ["self", "kinds", "many", "marks"] []
  f_Grammar_every_tree : Addr
  fd_Grammar_every_tree : FuncData
  F_Grammar_every_tree : Fun K "every_tree" "Grammar.every_tree" s_Grammar_every_tree f_Grammar_every_tree fd_Grammar_every_tree
  b_Grammar_every_tree : L2.Binds K fd_Grammar_every_tree ["self", "many", "marks"] []
  f_l_cell : Addr
  fd_l_cell : FuncData
  F_l_cell : Fun K "_law_cell" "_law_cell" s_l_cell f_l_cell fd_l_cell
  g_l_cell : mg "_law_cell" = some (.ref f_l_cell)
  b_l_cell : L2.Binds K fd_l_cell ["_law_script", "_law_k"] []
  f_l_row : Addr
  fd_l_row : FuncData
  F_l_row : Fun K "_law_row" "_law_row" s_l_row f_l_row fd_l_row
  g_l_row : mg "_law_row" = some (.ref f_l_row)
  b_l_row : L2.Binds K fd_l_row ["_law_cell_here", "_law_limits"] []
  f_l_names : Addr
  fd_l_names : FuncData
  F_l_names : Fun K "_law_names" "_law_names" s_l_names f_l_names fd_l_names
  g_l_names : mg "_law_names" = some (.ref f_l_names)
  b_l_names : L2.Binds K fd_l_names ["_law_cell_here", "_law_many"] []
  f_l_kinds : Addr
  fd_l_kinds : FuncData
  F_l_kinds : Fun K "_law_kinds" "_law_kinds" s_l_kinds f_l_kinds fd_l_kinds
  g_l_kinds : mg "_law_kinds" = some (.ref f_l_kinds)
  b_l_kinds : L2.Binds K fd_l_kinds ["_law_cell_here", "_law_many"] []
  f_l_may : Addr
  fd_l_may : FuncData
  F_l_may : Fun K "_law_may" "_law_may" s_l_may f_l_may fd_l_may
  g_l_may : mg "_law_may" = some (.ref f_l_may)
  b_l_may : L2.Binds K fd_l_may ["_law_outer", "_law_inner"] []
  f_l_grammar : Addr
  fd_l_grammar : FuncData
  F_l_grammar : Fun K "_law_grammar" "_law_grammar" s_l_grammar f_l_grammar fd_l_grammar
  g_l_grammar : mg "_law_grammar" = some (.ref f_l_grammar)
  b_l_grammar : L2.Binds K fd_l_grammar ["_law_cell_here", "_law_kinds_here"] []
  f_l_usual : Addr
  fd_l_usual : FuncData
  F_l_usual : Fun K "_law_usual" "_law_usual" s_l_usual f_l_usual fd_l_usual
  g_l_usual : mg "_law_usual" = some (.ref f_l_usual)
  b_l_usual : L2.Binds K fd_l_usual [] []
  f_l_table : Addr
  fd_l_table : FuncData
  F_l_table : Fun K "_law_table" "_law_table" s_l_table f_l_table fd_l_table
  g_l_table : mg "_law_table" = some (.ref f_l_table)
  b_l_table : L2.Binds K fd_l_table ["_law_rows"] []
  f_l_ways : Addr
  fd_l_ways : FuncData
  F_l_ways : Fun K "_law_ways" "_law_ways" s_l_ways f_l_ways fd_l_ways
  g_l_ways : mg "_law_ways" = some (.ref f_l_ways)
  b_l_ways : L2.Binds K fd_l_ways ["_law_kinds_here", "_law_many", "_law_counts_here"] []
  f_l_counts : Addr
  fd_l_counts : FuncData
  F_l_counts : Fun K "_law_counts" "_law_counts" s_l_counts f_l_counts fd_l_counts
  g_l_counts : mg "_law_counts" = some (.ref f_l_counts)
  b_l_counts : L2.Binds K fd_l_counts ["_law_rows", "_law_marks"] []
  f_l_size : Addr
  fd_l_size : FuncData
  F_l_size : Fun K "_law_size" "_law_size" s_l_size f_l_size fd_l_size
  g_l_size : mg "_law_size" = some (.ref f_l_size)
  b_l_size : L2.Binds K fd_l_size ["_law_node", "_law_kinds_here", "_law_table_here", "_law_marks"] []
  f_l_all : Addr
  fd_l_all : FuncData
  F_l_all : Fun K "_law_all" "_law_all" s_l_all f_l_all fd_l_all
  g_l_all : mg "_law_all" = some (.ref f_l_all)
  b_l_all : L2.Binds K fd_l_all ["_law_grammar_here", "_law_top", "_law_rows", "_law_size_here", "_law_marks"] []
  f_law : Addr
  fd_law : FuncData
  F_law : Fun K "law" "law" s_law f_law fd_law
  g_law : mg "law" = some (.ref f_law)
  b_law : L2.Binds K fd_law ["_law_script"] []
  n_int : mg "int" = none
  n_isinstance : mg "isinstance" = none
  n_len : mg "len" = none
  n_list : mg "list" = none
  n_max : mg "max" = none
  n_range : mg "range" = none
  n_sorted : mg "sorted" = none
  n_str : mg "str" = none
  n_sum : mg "sum" = none
  n_tuple : mg "tuple" = none
  k_TEXT_ROLES : Addr
  c_TEXT_ROLES : mg "TEXT_ROLES" = some (.ref k_TEXT_ROLES)
  kc_TEXT_ROLES : ∀ {cm : CM} (S : Hp), Rp K cm S (.ref k_TEXT_ROLES) (.kt [.str "block", .str "head", .str "span", .str "note", .str "figure"])
  k_INNER_ROLES : Addr
  c_INNER_ROLES : mg "INNER_ROLES" = some (.ref k_INNER_ROLES)
  kd_INNER_ROLES : ModD K w k_INNER_ROLES md_INNER_ROLES
  a_Misfit : Addr
  g_Misfit : mg "Misfit" = some (.ref a_Misfit)
  a_NoPlace : Addr
  g_NoPlace : mg "NoPlace" = some (.ref a_NoPlace)
  a_Strange : Addr
  g_Strange : mg "Strange" = some (.ref a_Strange)
  a_Taken : Addr
  g_Taken : mg "Taken" = some (.ref a_Taken)
  a_Unknown : Addr
  g_Unknown : mg "Unknown" = some (.ref a_Unknown)
  o_Misfit : OexC K a_Misfit
  fI_Misfit : Addr
  fdI_Misfit : FuncData
  i_Misfit : PySem.W.findIn K (.ref a_Misfit) "__init__" = some (some (.ref fI_Misfit))
  ti_Misfit : PySem.W.typeIn K (.ref fI_Misfit) = some (.type "function")
  FI_Misfit : Fun K "__init__" "Misfit.__init__" s_Misfit fI_Misfit fdI_Misfit
  b_Misfit : L2.Binds K fdI_Misfit ["self", "kind"] []
  no_Misfit_kind : PySem.W.findIn K (.ref a_Misfit) "kind" = some none
  xf_Misfit : XfC K a_Misfit
  xc_Misfit : ExcC K a_Misfit
  o_NoPlace : OexC K a_NoPlace
  fI_NoPlace : Addr
  fdI_NoPlace : FuncData
  i_NoPlace : PySem.W.findIn K (.ref a_NoPlace) "__init__" = some (some (.ref fI_NoPlace))
  ti_NoPlace : PySem.W.typeIn K (.ref fI_NoPlace) = some (.type "function")
  FI_NoPlace : Fun K "__init__" "NoPlace.__init__" s_NoPlace fI_NoPlace fdI_NoPlace
  b_NoPlace : L2.Binds K fdI_NoPlace ["self", "place"] []
  no_NoPlace_place : PySem.W.findIn K (.ref a_NoPlace) "place" = some none
  xf_NoPlace : XfC K a_NoPlace
  xc_NoPlace : ExcC K a_NoPlace
  o_Strange : OexC K a_Strange
  fI_Strange : Addr
  fdI_Strange : FuncData
  i_Strange : PySem.W.findIn K (.ref a_Strange) "__init__" = some (some (.ref fI_Strange))
  ti_Strange : PySem.W.typeIn K (.ref fI_Strange) = some (.type "function")
  FI_Strange : Fun K "__init__" "Strange.__init__" s_Strange fI_Strange fdI_Strange
  b_Strange : L2.Binds K fdI_Strange ["self", "place"] []
  no_Strange_place : PySem.W.findIn K (.ref a_Strange) "place" = some none
  xf_Strange : XfC K a_Strange
  xc_Strange : ExcC K a_Strange
  o_Taken : OexC K a_Taken
  fI_Taken : Addr
  fdI_Taken : FuncData
  i_Taken : PySem.W.findIn K (.ref a_Taken) "__init__" = some (some (.ref fI_Taken))
  ti_Taken : PySem.W.typeIn K (.ref fI_Taken) = some (.type "function")
  FI_Taken : Fun K "__init__" "Taken.__init__" s_Taken fI_Taken fdI_Taken
  b_Taken : L2.Binds K fdI_Taken ["self", "kind"] []
  no_Taken_kind : PySem.W.findIn K (.ref a_Taken) "kind" = some none
  xf_Taken : XfC K a_Taken
  xc_Taken : ExcC K a_Taken
  o_Unknown : OexC K a_Unknown
  fI_Unknown : Addr
  fdI_Unknown : FuncData
  i_Unknown : PySem.W.findIn K (.ref a_Unknown) "__init__" = some (some (.ref fI_Unknown))
  ti_Unknown : PySem.W.typeIn K (.ref fI_Unknown) = some (.type "function")
  FI_Unknown : Fun K "__init__" "Unknown.__init__" s_Unknown fI_Unknown fdI_Unknown
  b_Unknown : L2.Binds K fdI_Unknown ["self", "kind"] []
  no_Unknown_kind : PySem.W.findIn K (.ref a_Unknown) "kind" = some none
  xf_Unknown : XfC K a_Unknown
  xc_Unknown : ExcC K a_Unknown
  a_Grammar : Addr
  g_Grammar : mg "Grammar" = some (.ref a_Grammar)
  cl_Grammar : L2.Cls K a_Grammar
  mk_Grammar : L2.Mk K a_Grammar f_Grammar_init
  na_Grammar_entries : L2.NoAttr K a_Grammar "entries"
  na_Grammar_order : L2.NoAttr K a_Grammar "order"
  na_Grammar_root : L2.NoAttr K a_Grammar "root"
  m_Grammar_check : L2.Meth K a_Grammar "check" f_Grammar_check
  m_Grammar_check_inner : L2.Meth K a_Grammar "check_inner" f_Grammar_check_inner
  m_Grammar_elements_of : L2.Meth K a_Grammar "elements_of" f_Grammar_elements_of
  m_Grammar_every_tree : L2.Meth K a_Grammar "every_tree" f_Grammar_every_tree
  m_Grammar_may_stand : L2.Meth K a_Grammar "may_stand" f_Grammar_may_stand
  m_Grammar_rows_of : L2.Meth K a_Grammar "rows_of" f_Grammar_rows_of
def Txt.cm {w : World} {K : PySem.W.Frag} {mg : Str → Option Value} (T : Txt w K mg) : CM := fun n => if n = "Misfit" then some T.a_Misfit else if n = "NoPlace" then some T.a_NoPlace else if n = "Strange" then some T.a_Strange else if n = "Taken" then some T.a_Taken else if n = "Unknown" then some T.a_Unknown else if n = "Grammar" then some T.a_Grammar else none
section
variable {P : Program} {w : World} {K : PySem.W.Frag} {mg : Str → Option Value} {base : Heap}
theorem Txt.cm_Misfit (T : Txt w K mg) : T.cm "Misfit" = some T.a_Misfit := by unfold Txt.cm; rw [if_pos rfl]
theorem Txt.cm_NoPlace (T : Txt w K mg) : T.cm "NoPlace" = some T.a_NoPlace := by unfold Txt.cm; rw [if_neg (by decide), if_pos rfl]
theorem Txt.cm_Strange (T : Txt w K mg) : T.cm "Strange" = some T.a_Strange := by unfold Txt.cm; rw [if_neg (by decide), if_neg (by decide), if_pos rfl]
theorem Txt.cm_Taken (T : Txt w K mg) : T.cm "Taken" = some T.a_Taken := by unfold Txt.cm; rw [if_neg (by decide), if_neg (by decide), if_neg (by decide), if_pos rfl]
theorem Txt.cm_Unknown (T : Txt w K mg) : T.cm "Unknown" = some T.a_Unknown := by unfold Txt.cm; rw [if_neg (by decide), if_neg (by decide), if_neg (by decide), if_neg (by decide), if_pos rfl]
theorem Txt.cm_Grammar (T : Txt w K mg) : T.cm "Grammar" = some T.a_Grammar := by unfold Txt.cm; rw [if_neg (by decide), if_neg (by decide), if_neg (by decide), if_neg (by decide), if_neg (by decide), if_pos rfl]
theorem ox_Misfit (T : Txt w K mg) : FnOk P w K mg base (L2N.CX P w) 1 T.fI_Misfit T.fdI_Misfit ["self", "kind"] (spX1 K T.a_Misfit "kind") := xinit1 T.FI_Misfit sc_Misfit rfl rfl fun cdv A outer s H E => pss_one (ps_ost (pv 0) (pv 1))
theorem ox_NoPlace (T : Txt w K mg) : FnOk P w K mg base (L2N.CX P w) 1 T.fI_NoPlace T.fdI_NoPlace ["self", "place"] (spX1 K T.a_NoPlace "place") := xinit1 T.FI_NoPlace sc_NoPlace rfl rfl fun cdv A outer s H E => pss_one (ps_ost (pv 0) (pv 1))
theorem ox_Strange (T : Txt w K mg) : FnOk P w K mg base (L2N.CX P w) 1 T.fI_Strange T.fdI_Strange ["self", "place"] (spX1 K T.a_Strange "place") := xinit1 T.FI_Strange sc_Strange rfl rfl fun cdv A outer s H E => pss_one (ps_ost (pv 0) (pv 1))
theorem ox_Taken (T : Txt w K mg) : FnOk P w K mg base (L2N.CX P w) 1 T.fI_Taken T.fdI_Taken ["self", "kind"] (spX1 K T.a_Taken "kind") := xinit1 T.FI_Taken sc_Taken rfl rfl fun cdv A outer s H E => pss_one (ps_ost (pv 0) (pv 1))
theorem ox_Unknown (T : Txt w K mg) : FnOk P w K mg base (L2N.CX P w) 1 T.fI_Unknown T.fdI_Unknown ["self", "kind"] (spX1 K T.a_Unknown "kind") := xinit1 T.FI_Unknown sc_Unknown rfl rfl fun cdv A outer s H E => pss_one (ps_ost (pv 0) (pv 1))
theorem ok_all_nodes (T : Txt w K mg) : GFnD P w K mg base T.cm 1 T.f_all_nodes T.fd_all_nodes ["tree"] F_all_nodes   := dokGen (k := 0) T.F_all_nodes sc_all_nodes nc_all_nodes (by decide) fun cdv outer n0 os pn hpn =>
  (gss_cons (gl_leaf fun b hb => have hr := hb.rx (k := 0) rfl
  (ds_setO 1 gok0 (show 1 < 5 by decide) sc_all_nodes.nd rfl (by first | exact Or.inl rfl | exact Or.inr rfl) (de_lst (da_cons (de_tup (da_cons (de_tup da_nil) (da_cons (de_var 0 (pv 0) rfl) da_nil))) da_nil))))
  (gss_cons (gs_while 100000 (fun b hb => have hr := hb.rx (k := 0) rfl
  (dt_tru (db_var 1 (pv 1) (.inr (.inl (by trivial)))) (by intro _; rfl)))
  (gss_cons (gl_leaf fun b hb => have hr := hb.rx (k := 0) rfl
  (ds_pop 1 gok0 rfl (pv 1) (dg_tup rfl (dg_cons (dg_name 2 sc_all_nodes.nd rfl (by first | exact Or.inl rfl | exact Or.inr rfl)) (dg_cons (dg_name 3 sc_all_nodes.nd rfl (by first | exact Or.inl rfl | exact Or.inr rfl)) dg_nil)))))
  (gss_cons (gs_yield (hvo rfl) nc_all_nodes hpn rfl (fun b hb => have hr := hb.rx (k := 0) rfl
  (de_tup (da_cons (de_var 2 (pv 2) rfl) (da_cons (de_var 3 (pv 3) rfl) da_nil)))))
  (gss_cons (gl_leaf fun b hb => have hr := hb.rx (k := 0) rfl
  (ds_if gok0 (dt_not (dt_val (de_isi "str" T.n_isinstance (by rfl) (by rfl) T.n_str (by decide +kernel) (db_var 3 (pv 3) (.inl (by rfl))))))
  (ds_one (ds_for gok0 owns_gcx rfl (di_rng3 T.n_range (by rfl) (da_cons (de_op op_sub os_sub (db_of (de_bltn call_len cs_len (by rfl) T.n_len (by decide +kernel) (dm_bor (db_of (de_ix (db_var 3 (pv 3) (.inl (by rfl))) (db_of de_int) (fun _ _ => rfl))) dm_nil))) (db_of de_int)) (da_cons (de_neg de_int) (da_cons (de_neg de_int) da_nil)))) (dg_name 4 sc_all_nodes.nd rfl (by first | exact Or.inl rfl | exact Or.inr rfl))
  (ds_one (ds_app 1 gok0 rfl (pv 1) (de_tup (da_cons (de_op or_add os_add (db_var 2 (pv 2) (.inl (by rfl))) (db_of (de_tup (da_cons (de_var 4 (pv 4) rfl) da_nil)))) (da_cons (de_ix (db_of (de_ix (db_var 3 (pv 3) (.inl (by rfl))) (db_of de_int) (fun _ _ => rfl))) (db_var 4 (pv 4) (.inl (by rfl))) (fun _ _ => rfl)) da_nil)))))))
  ds_nil))
  gl_nil))))
  gl_nil))
theorem ok_node_at (T : Txt w K mg) : FnOk P w K mg base (L2N.CX P w) 3 T.f_node_at T.fd_node_at ["tree", "place"] (spD K T.cm [false, false] false F_node_at)   := dok (G' := []) (k := 2) T.F_node_at sc_node_at rfl (by decide) fun cdv A outer s H E hr =>
  (ds_cons (ds_set 2 gok0 sc_node_at.nd rfl (by first | exact Or.inl rfl | exact Or.inr rfl) (de_var 0 (pv 0) rfl))
  (ds_cons (ds_for gok0 (passes_of rfl) rfl (di_tup (de_var 1 (pv 1) rfl)) (dg_name 3 sc_node_at.nd rfl (by first | exact Or.inl rfl | exact Or.inr rfl))
  (ds_cons (ds_if gok0 (PW.pt (dw_or (dt_val (de_isi "str" T.n_isinstance (by rfl) (by rfl) T.n_str (by decide +kernel) (db_var 2 (pv 2) (.inl (by rfl))))) (dw_or1 (dt_not (dt_chain or_le os_ord or_lt os_ord (db_of de_int) (db_var 3 (pv 3) (.inl (by rfl))) (db_of (de_bltn call_len cs_len (by rfl) T.n_len (by decide +kernel) (dm_bor (db_of (de_ix (db_var 2 (pv 2) (.inl (by rfl))) (db_of de_int) (fun _ _ => rfl))) dm_nil))))))))
  (ds_one (ds_raise1 gok0 T.cm_NoPlace rfl (L2N.takes_of rfl rfl rfl rfl) T.o_NoPlace T.i_NoPlace T.ti_NoPlace T.no_NoPlace_place (ox_NoPlace T) (hr.mono (by decide)) T.b_NoPlace (by rfl) T.g_NoPlace (da_cons (de_var 1 (pv 1) rfl) da_nil)))
  ds_nil)
  (ds_one (ds_set 2 gok0 sc_node_at.nd rfl (by first | exact Or.inl rfl | exact Or.inr rfl) (de_ix (db_of (de_ix (db_var 2 (pv 2) (.inl (by rfl))) (db_of de_int) (fun _ _ => rfl))) (db_var 3 (pv 3) (.inl (by rfl))) (fun _ _ => rfl))))))
  (ds_one (ds_ret gok0 rfl (de_var 2 (pv 2) rfl)))))
theorem ok_Grammar_check_inner (T : Txt w K mg) : FnOk P w K mg base (L2N.CX P w) 3 T.f_Grammar_check_inner T.fd_Grammar_check_inner ["self", "kind"] (spD K T.cm [true, false] false F_Grammar_check_inner)   := dok (k := 2) T.F_Grammar_check_inner sc_Grammar_check_inner rfl (by decide) fun cdv A outer s H E hr =>
  (ds_cons (ds_asg gok0 (de_getZ (hu65 hr) (db_of (de_fld T.cm_Grammar T.cl_Grammar T.na_Grammar_entries (db_var 0 (pv 0) (.inr (.inr (by rfl)))))) (db_var 1 (pv 1) (.inl (by rfl))) (fun _ _ => rfl)) (dg_tup rfl (dg_cons (dg_name 2 sc_Grammar_check_inner.nd rfl (by first | exact Or.inl rfl | exact Or.inr rfl)) (dg_cons (dg_name 3 sc_Grammar_check_inner.nd rfl (by first | exact Or.inl rfl | exact Or.inr rfl)) dg_nil))))
  (ds_one (ds_for gok0 (passes_of rfl) rfl (di_tup (de_var 3 (pv 3) rfl)) (dg_name 4 sc_Grammar_check_inner.nd rfl (by first | exact Or.inl rfl | exact Or.inr rfl))
  (ds_cons (ds_if gok0 (dt_cmp (op_ninK (hu65 hr)) os_inK (db_var 4 (pv 4) (.inl (by rfl))) (db_of (de_fld T.cm_Grammar T.cl_Grammar T.na_Grammar_entries (db_var 0 (pv 0) (.inr (.inr (by rfl)))))) (by rfl))
  (ds_one (ds_raise1 gok0 T.cm_Unknown rfl (L2N.takes_of rfl rfl rfl rfl) T.o_Unknown T.i_Unknown T.ti_Unknown T.no_Unknown_kind (ox_Unknown T) (hr.mono (by decide)) T.b_Unknown (by rfl) T.g_Unknown (da_cons (de_var 4 (pv 4) rfl) da_nil)))
  ds_nil)
  (ds_one (ds_if gok0 (dt_cmp op_notIn_seq os_inKt (db_of (de_ix (db_of (de_getZ (hu65 hr) (db_of (de_fld T.cm_Grammar T.cl_Grammar T.na_Grammar_entries (db_var 0 (pv 0) (.inr (.inr (by rfl)))))) (db_var 4 (pv 4) (.inl (by rfl))) (fun _ _ => rfl))) (db_of de_int) (fun _ _ => rfl))) (db_of (de_mdGet T.kd_INNER_ROLES (pe_glob (v := .ref T.k_INNER_ROLES) (by rfl) T.c_INNER_ROLES rfl) (db_var 2 (pv 2) (.inl (by rfl))) (fun _ _ => rfl))) (by rfl))
  (ds_one (ds_raise1 gok0 T.cm_Misfit rfl (L2N.takes_of rfl rfl rfl rfl) T.o_Misfit T.i_Misfit T.ti_Misfit T.no_Misfit_kind (ox_Misfit T) (hr.mono (by decide)) T.b_Misfit (by rfl) T.g_Misfit (da_cons (de_var 4 (pv 4) rfl) da_nil)))
  ds_nil))))))
theorem ok_Grammar_init (T : Txt w K mg) : FnOk P w K mg base (L2N.CX P w) 4 T.f_Grammar_init T.fd_Grammar_init ["self", "root", "rows"] (spI K T.cm T.a_Grammar [false, false] F_Grammar_init)   := dokI (k := 3) T.F_Grammar_init sc_Grammar_init T.cm_Grammar rfl (by decide) (fun _ => rfl) fun cdv A outer s H E a hr =>
  (ds_cons (ds_fst 0 gok0 T.cm_Grammar T.cl_Grammar T.na_Grammar_root trivial (pv 0) (de_var 1 (pv 1) rfl))
  (ds_gram (i := 0) (g1 := 6) (g2 := 7) (jb := 6) (Gj := fun q p v0 => [.j a [("root", v0), ("order", .ref q), ("entries", .ref p)], .v, .v, .v, .v, .v, .i q, .i p]) (by intro g h; have h : none = some g := h; cases h) (by decide) (by decide) T.cm_Grammar T.cl_Grammar T.na_Grammar_order T.na_Grammar_entries rfl (by decide) (fun | 0, h => absurd rfl h | 1, _ => .inl rfl | 2, _ => .inl rfl | 3, _ => .inl rfl | 4, _ => .inl rfl | 5, _ => .inl rfl | 6, _ => .inl rfl | 7, _ => .inl rfl | _ + 8, _ => .inl rfl) (pv 0) (pv 0) (de_lst da_nil) dLst_nil de_dnew (fun _ => rfl) rfl (by show ¬ Vis (defScope s_Grammar_init) (Str.ofString "self.order"); unfold Vis; decide +kernel) rfl (by show ¬ Vis (defScope s_Grammar_init) (Str.ofString "self.entries"); unfold Vis; decide +kernel) (fun q p v0 => ⟨rfl, rfl, rfl, fun | 0, h, _, _ => absurd rfl h | 1, _, _, _ => .inl rfl | 2, _, _, _ => .inl rfl | 3, _, _, _ => .inl rfl | 4, _, _, _ => .inl rfl | 5, _, _, _ => .inl rfl | 6, _, h, _ => absurd rfl h | 7, _, _, h => absurd rfl h | _ + 8, _, _, _ => .inl rfl⟩) (fun q p v0 => fun | 0, h, _, _ => absurd rfl h | 1, _, _, _ => rfl | 2, _, _, _ => rfl | 3, _, _, _ => rfl | 4, _, _, _ => rfl | 5, _, _, _ => rfl | 6, _, h, _ => absurd rfl h | 7, _, _, h => absurd rfl h | _ + 8, _, _, _ => rfl)
  (fun q p v0 => (ds_for gok0 (passes_of rfl) rfl (di_list (de_var 2 (pv 2) rfl)) (dg_tup rfl (dg_cons (dg_name 3 sc_Grammar_init.nd rfl (by first | exact Or.inl rfl | exact Or.inr rfl)) (dg_cons (dg_name 4 sc_Grammar_init.nd rfl (by first | exact Or.inl rfl | exact Or.inr rfl)) (dg_cons (dg_name 5 sc_Grammar_init.nd rfl (by first | exact Or.inl rfl | exact Or.inr rfl)) dg_nil))))
  (ds_cons (ds_if gok0 (dt_cmp (op_inK (hu65 hr)) os_inK (db_var 3 (pv 3) (.inl (by rfl))) (de_jfld T.cm_Grammar T.cl_Grammar T.na_Grammar_entries rfl rfl rfl (pv 0)) (by rfl))
  (ds_one (ds_raise1 gok0 T.cm_Taken rfl (L2N.takes_of rfl rfl rfl rfl) T.o_Taken T.i_Taken T.ti_Taken T.no_Taken_kind (ox_Taken T) (hr.mono (by decide)) T.b_Taken (by rfl) T.g_Taken (da_cons (de_var 3 (pv 3) rfl) da_nil)))
  ds_nil)
  (ds_cons (ds_putJ gok0 hr T.cm_Grammar T.cl_Grammar T.na_Grammar_entries rfl rfl rfl (pv 0) (de_var 3 (pv 3) rfl) (de_tup (da_cons (de_var 4 (pv 4) rfl) (da_cons (de_type call_tuple_of cs_tuple (by rfl) T.n_tuple (by decide +kernel) (dm_bor (db_var 5 (pv 5) (.inl (by rfl))) dm_nil)) da_nil))))
  (ds_one (ds_appJ gok0 T.cm_Grammar T.cl_Grammar T.na_Grammar_order rfl rfl rfl (pv 0) (de_var 3 (pv 3) rfl)))))))
  (ds_cons (ds_if gok0 (dt_cmp (op_ninK (hu65 hr)) os_inK (db_var 1 (pv 1) (.inl (by rfl))) (db_of (de_fld T.cm_Grammar T.cl_Grammar T.na_Grammar_entries (db_var 0 (pv 0) (.inr (.inl (by trivial)))))) (by rfl))
  (ds_one (ds_raise1 gok0 T.cm_Unknown rfl (L2N.takes_of rfl rfl rfl rfl) T.o_Unknown T.i_Unknown T.ti_Unknown T.no_Unknown_kind (ox_Unknown T) (hr.mono (by decide)) T.b_Unknown (by rfl) T.g_Unknown (da_cons (de_var 1 (pv 1) rfl) da_nil)))
  ds_nil)
  (ds_cons (ds_if gok0 (dt_cmp (or_ne hr.units) os_ne (db_of (de_ix (db_of (de_getZ (hu65 hr) (db_of (de_fld T.cm_Grammar T.cl_Grammar T.na_Grammar_entries (db_var 0 (pv 0) (.inr (.inl (by trivial)))))) (db_var 1 (pv 1) (.inl (by rfl))) (fun _ _ => rfl))) (db_of de_int) (fun _ _ => rfl))) (db_of (de_strL (by decide +kernel))) (nomark _))
  (ds_one (ds_raise1 gok0 T.cm_Misfit rfl (L2N.takes_of rfl rfl rfl rfl) T.o_Misfit T.i_Misfit T.ti_Misfit T.no_Misfit_kind (ox_Misfit T) (hr.mono (by decide)) T.b_Misfit (by rfl) T.g_Misfit (da_cons (de_var 1 (pv 1) rfl) da_nil)))
  ds_nil)
  (ds_one (ds_for gok0 (passes_of rfl) rfl (di_list (de_fld T.cm_Grammar T.cl_Grammar T.na_Grammar_order (db_var 0 (pv 0) (.inr (.inl (by trivial)))))) (dg_name 3 sc_Grammar_init.nd rfl (by first | exact Or.inl rfl | exact Or.inr rfl))
  (ds_one (ds_expr gok0 (de_meth (rm := false) T.cm_Grammar T.cl_Grammar T.m_Grammar_check_inner (ok_Grammar_check_inner T) (L2N.takes_of rfl rfl rfl rfl) (hr.mono (by decide)) T.b_Grammar_check_inner (db_var 0 (pv 0) (.inr (.inl (by trivial)))) (dm_val (de_var 3 (pv 3) rfl) dm_nil))))))))))
theorem ok_Grammar_may_stand (T : Txt w K mg) : FnOk P w K mg base (L2N.CX P w) 4 T.f_Grammar_may_stand T.fd_Grammar_may_stand ["self", "tree", "place", "node"] (spD K T.cm [true, false, false, false] false F_Grammar_may_stand)   := dok (G' := []) (k := 3) T.F_Grammar_may_stand sc_Grammar_may_stand rfl (by decide) fun cdv A outer s H E hr =>
  (ds_cons (ds_if gok0 (dt_cmp (or_eq hr.units) os_eq (db_var 2 (pv 2) (.inl (by rfl))) (db_of (de_tup da_nil)) (nomark _))
  (ds_one (ds_ret gok0 rfl (de_cmp (or_eq hr.units) os_eq (db_of (de_ix (db_var 3 (pv 3) (.inl (by rfl))) (db_of de_int) (fun _ _ => rfl))) (db_of (de_fld T.cm_Grammar T.cl_Grammar T.na_Grammar_root (db_var 0 (pv 0) (.inr (.inr (by rfl)))))) (nomark _))))
  ds_nil)
  (ds_cons (ds_asg gok0 (de_getZ (hu65 hr) (db_of (de_fld T.cm_Grammar T.cl_Grammar T.na_Grammar_entries (db_var 0 (pv 0) (.inr (.inr (by rfl)))))) (db_of (de_ix (db_of (de_callV (ok_node_at T) (L2N.takes_of rfl rfl rfl rfl) (hr.mono (by decide)) (by rfl) T.g_node_at T.F_node_at.kp T.b_node_at (dm_val (de_var 1 (pv 1) rfl) (dm_val (de_sl (db_var 2 (pv 2) (.inl (by rfl))) dp_none (dp_some (de_neg de_int))) dm_nil)))) (db_of de_int) (fun _ _ => rfl))) (fun _ _ => rfl)) (dg_tup rfl (dg_cons (dg_name 4 sc_Grammar_may_stand.nd rfl (by first | exact Or.inl rfl | exact Or.inr rfl)) (dg_cons (dg_name 5 sc_Grammar_may_stand.nd rfl (by first | exact Or.inl rfl | exact Or.inr rfl)) dg_nil))))
  (ds_cons (ds_if gok0 (dt_val (de_isi "str" T.n_isinstance (by rfl) (by rfl) T.n_str (by decide +kernel) (db_var 3 (pv 3) (.inl (by rfl)))))
  (ds_one (ds_ret gok0 rfl (de_cmp op_in_seq os_inKt (db_var 4 (pv 4) (.inl (by rfl))) (db_of (de_c (v := .ref T.k_TEXT_ROLES) (pe_glob (by rfl) T.c_TEXT_ROLES rfl) fun S => T.kc_TEXT_ROLES S)) (by rfl))))
  ds_nil)
  (ds_one (ds_ret gok0 rfl (de_cmp (or_in (hu65 hr)) os_in (db_of (de_ix (db_var 3 (pv 3) (.inl (by rfl))) (db_of de_int) (fun _ _ => rfl))) (db_var 5 (pv 5) (.inl (by rfl))) (by rfl)))))))
theorem ok_Grammar_check (T : Txt w K mg) : FnOk P w K mg base (L2N.CX P w) 5 T.f_Grammar_check T.fd_Grammar_check ["self", "tree"] (spD K T.cm [true, false] false F_Grammar_check)   := dok (k := 4) T.F_Grammar_check sc_Grammar_check rfl (by decide) fun cdv A outer s H E hr =>
  (ds_one (ds_forGen gok0 (passes_of rfl) xeG_cx (dg_callG (k := 1) (ok_all_nodes T) (hr.mono (by decide)) (by rfl) T.g_all_nodes T.F_all_nodes.kp T.b_all_nodes (dl_cons dl_nil) (da_cons (de_var 1 (pv 1) rfl) da_nil)) (hr.mono (by decide)) (dg_tup rfl (dg_cons (dg_name 2 sc_Grammar_check.nd rfl (by first | exact Or.inl rfl | exact Or.inr rfl)) (dg_cons (dg_name 3 sc_Grammar_check.nd rfl (by first | exact Or.inl rfl | exact Or.inr rfl)) dg_nil)))
  (ds_one (ds_if gok0 (dt_not (dt_val (de_meth (rm := false) T.cm_Grammar T.cl_Grammar T.m_Grammar_may_stand (ok_Grammar_may_stand T) (L2N.takes_of rfl rfl rfl rfl) (hr.mono (by decide)) T.b_Grammar_may_stand (db_var 0 (pv 0) (.inr (.inr (by rfl)))) (dm_val (de_var 1 (pv 1) rfl) (dm_val (de_var 2 (pv 2) rfl) (dm_val (de_var 3 (pv 3) rfl) dm_nil))))))
  (ds_one (ds_raise1 gok0 T.cm_Strange rfl (L2N.takes_of rfl rfl rfl rfl) T.o_Strange T.i_Strange T.ti_Strange T.no_Strange_place (ox_Strange T) (hr.mono (by decide)) T.b_Strange (by rfl) T.g_Strange (da_cons (de_var 2 (pv 2) rfl) da_nil)))
  ds_nil))))
theorem ok_Grammar_elements_of (T : Txt w K mg) {n : Nat} (ih : ∀ T : Txt w K mg, FnOk P w K mg base (L2N.CX P w) (3 + 2 * n) T.f_Grammar_rows_of T.fd_Grammar_rows_of ["self", "kinds", "many", "marks"] (spD K T.cm [true, false, false, false] false (F_Grammar_rows_of n))) : FnOk P w K mg base (L2N.CX P w) (3 + 2 * n + 1) T.f_Grammar_elements_of T.fd_Grammar_elements_of ["self", "kind", "many", "marks"] (spD K T.cm [true, false, false, false] false (F_Grammar_elements_of (F_Grammar_rows_of n))) := dok (G' := []) (k := 3 + 2 * n) T.F_Grammar_elements_of sc_Grammar_elements_of rfl (by decide) fun cdv A outer s H E hr =>
  (ds_cons (ds_setO 4 gok0 (show 4 < 7 by decide) sc_Grammar_elements_of.nd rfl (by first | exact Or.inl rfl | exact Or.inr rfl) (de_lst da_nil))
  (ds_cons (ds_for gok0 (passes_of rfl) rfl (di_list (de_meth (rm := false) T.cm_Grammar T.cl_Grammar T.m_Grammar_rows_of (ih T) (L2N.takes_of rfl rfl rfl rfl) hr T.b_Grammar_rows_of (db_var 0 (pv 0) (.inr (.inr (by rfl)))) (dm_val (de_ix (db_of (de_getZ (hu65 hr) (db_of (de_fld T.cm_Grammar T.cl_Grammar T.na_Grammar_entries (db_var 0 (pv 0) (.inr (.inr (by rfl)))))) (db_var 1 (pv 1) (.inl (by rfl))) (fun _ _ => rfl))) (db_of de_int) (fun _ _ => rfl)) (dm_val (de_op op_sub os_sub (db_var 2 (pv 2) (.inl (by rfl))) (db_of de_int)) (dm_val (de_var 3 (pv 3) rfl) dm_nil))))) (dg_name 5 sc_Grammar_elements_of.nd rfl (by first | exact Or.inl rfl | exact Or.inr rfl))
  (ds_one (ds_for gok0 (passes_of rfl) rfl (di_list (de_var 3 (pv 3) rfl)) (dg_name 6 sc_Grammar_elements_of.nd rfl (by first | exact Or.inl rfl | exact Or.inr rfl))
  (ds_one (ds_app 4 gok0 rfl (pv 4) (de_tup (da_cons (de_var 1 (pv 1) rfl) (da_cons (de_var 6 (pv 6) rfl) (da_cons (de_var 5 (pv 5) rfl) da_nil)))))))))
  (ds_pub 4 (ds_one (ds_ret gok0 rfl (de_var 4 (pv 4) rfl))) (.inl rfl))))
theorem ok_Grammar_rows_of (T : Txt w K mg) : ∀ {n : Nat}, FnOk P w K mg base (L2N.CX P w) (3 + 2 * n) T.f_Grammar_rows_of T.fd_Grammar_rows_of ["self", "kinds", "many", "marks"] (spD K T.cm [true, false, false, false] false (F_Grammar_rows_of n))
  | 0 => fnok_bad
  | n + 1 => dok (G' := []) (k := 3 + 2 * n + 1) T.F_Grammar_rows_of sc_Grammar_rows_of rfl (by decide) fun cdv A outer s H E hr => by
    have ih := fun T => ok_Grammar_rows_of T (n := n)
    exact (ds_cons (ds_if gok0 (dt_cmp (or_eq hr.units) os_eq (db_var 2 (pv 2) (.inl (by rfl))) (db_of de_int) (nomark _))
  (ds_one (ds_ret gok0 rfl (de_pub (de_lst (da_cons (de_tup da_nil) da_nil)))))
  ds_nil)
  (ds_cons (ds_setO 4 gok0 (show 4 < 10 by decide) sc_Grammar_rows_of.nd rfl (by first | exact Or.inl rfl | exact Or.inr rfl) (de_lst da_nil))
  (ds_cons (ds_for gok0 (passes_of rfl) rfl (di_rng2 T.n_range (by rfl) (da_cons de_int (da_cons (de_op or_add os_add (db_var 2 (pv 2) (.inl (by rfl))) (db_of de_int)) da_nil))) (dg_name 5 sc_Grammar_rows_of.nd rfl (by first | exact Or.inl rfl | exact Or.inr rfl))
  (ds_cons (ds_setO 6 gok0 (show 6 < 10 by decide) sc_Grammar_rows_of.nd rfl (by first | exact Or.inl rfl | exact Or.inr rfl) (de_lst da_nil))
  (ds_cons (ds_for gok0 (passes_of rfl) rfl (di_tup (de_var 1 (pv 1) rfl)) (dg_name 7 sc_Grammar_rows_of.nd rfl (by first | exact Or.inl rfl | exact Or.inr rfl))
  (ds_one (ds_ext 6 gok0 rfl (pv 6) (de_meth (rm := false) T.cm_Grammar T.cl_Grammar T.m_Grammar_elements_of (ok_Grammar_elements_of (n := n) T ih) (L2N.takes_of rfl rfl rfl rfl) hr T.b_Grammar_elements_of (db_var 0 (pv 0) (.inr (.inr (by rfl)))) (dm_val (de_var 7 (pv 7) rfl) (dm_val (de_var 5 (pv 5) rfl) (dm_val (de_var 3 (pv 3) rfl) dm_nil)))))))
  (ds_one (ds_if gok0 (dt_tru (db_var 6 (pv 6) (.inr (.inl (by trivial)))) (by intro _; rfl))
  (ds_pub 6 (ds_one (ds_for gok0 (passes_of rfl) rfl (di_list (de_meth (rm := false) T.cm_Grammar T.cl_Grammar T.m_Grammar_rows_of (ih T) (L2N.takes_of rfl rfl rfl rfl) (hr.mono (by omega)) T.b_Grammar_rows_of (db_var 0 (pv 0) (.inr (.inr (by rfl)))) (dm_val (de_var 1 (pv 1) rfl) (dm_val (de_op op_sub os_sub (db_var 2 (pv 2) (.inl (by rfl))) (db_var 5 (pv 5) (.inl (by rfl)))) (dm_val (de_var 3 (pv 3) rfl) dm_nil))))) (dg_name 8 sc_Grammar_rows_of.nd rfl (by first | exact Or.inl rfl | exact Or.inr rfl))
  (ds_one (ds_for gok0 (passes_of rfl) rfl (di_list (de_var 6 (pv 6) rfl)) (dg_name 9 sc_Grammar_rows_of.nd rfl (by first | exact Or.inl rfl | exact Or.inr rfl))
  (ds_one (ds_app 4 gok0 rfl (pv 4) (de_op or_add os_add (db_of (de_tup (da_cons (de_var 9 (pv 9) rfl) da_nil))) (db_var 8 (pv 8) (.inl (by rfl)))))))))) (.inl rfl))
  (ds_pubE (G' := [.b, .v, .v, .v, .o, .v, .o, .v, .v, .v]) 6 ds_nil (.inl rfl)))))))
  (ds_pub 4 (ds_one (ds_ret gok0 rfl (de_var 4 (pv 4) rfl))) (.inl rfl)))))
theorem ok_Grammar_every_tree (T : Txt w K mg) : GFnD P w K mg base T.cm 21 T.f_Grammar_every_tree T.fd_Grammar_every_tree ["self", "many", "marks"] F_Grammar_every_tree   := dokGen (k := 20) T.F_Grammar_every_tree sc_Grammar_every_tree nc_Grammar_every_tree (by decide) fun cdv outer n0 os pn hpn =>
  (gss_cons (gs_for nc_Grammar_every_tree (fun b hb => have hr := hb.rx (k := 20) rfl
  (is_list (de_pub (de_bltn (cr_sortDat (cm := T.cm) hr) cs_sortDat (by rfl) T.n_sorted (by decide +kernel) (dm_bor (db_of (de_meth (rm := false) T.cm_Grammar T.cl_Grammar T.m_Grammar_elements_of (ok_Grammar_elements_of (n := 8) T (fun T => ok_Grammar_rows_of T)) takesG (hr.mono (by decide)) T.b_Grammar_elements_of (db_var 0 (pv 0) (.inl (by rfl))) (dm_val (de_fld T.cm_Grammar T.cl_Grammar T.na_Grammar_root (db_var 0 (pv 0) (.inl (by rfl)))) (dm_val (de_var 1 (pv 1) rfl) (dm_val (de_var 2 (pv 2) rfl) dm_nil))))) dm_nil))))) (fun b hb => have hr := hb.rx (k := 20) rfl
  (dg_name 3 sc_Grammar_every_tree.nd rfl (by first | exact Or.inl rfl | exact Or.inr rfl)))
  (gss_cons (gs_yield (hvo rfl) nc_Grammar_every_tree hpn rfl (fun b hb => have hr := hb.rx (k := 20) rfl
  (de_var 3 (pv 3) rfl)))
  gl_nil))
  gl_nil)
theorem ok_l_cell (T : Txt w K mg) : FnOk P w K mg base (L2N.CX P w) 1 T.f_l_cell T.fd_l_cell ["_law_script", "_law_k"] (spD K T.cm [false, false] false F_l_cell)   := dok (G' := []) (k := 0) T.F_l_cell sc_l_cell rfl (by decide) fun cdv A outer s H E hr =>
  (ds_cons (ds_if gok0 (dt_cmp (or_eq hr.units) os_eq (db_of (de_bltn call_len cs_len (by rfl) T.n_len (by decide +kernel) (dm_bor (db_var 0 (pv 0) (.inl (by rfl))) dm_nil))) (db_of de_int) (nomark _))
  (ds_one (ds_ret gok0 rfl (de_op op_pow os_pow (db_of de_int) (db_of de_int))))
  ds_nil)
  (ds_cons (ds_if gok0 (dt_cmp or_lt os_ord (db_var 1 (pv 1) (.inl (by rfl))) (db_of (de_bltn call_len cs_len (by rfl) T.n_len (by decide +kernel) (dm_bor (db_var 0 (pv 0) (.inl (by rfl))) dm_nil))) (nomark _))
  (ds_one (ds_ret gok0 rfl (de_type cr_int cs_int (by rfl) T.n_int (by decide +kernel) (dm_bor (db_of (de_ix (db_var 0 (pv 0) (.inl (by rfl))) (db_var 1 (pv 1) (.inl (by rfl))) (fun _ _ => rfl))) dm_nil))))
  ds_nil)
  (ds_one (ds_ret gok0 rfl (de_op or_add os_add (db_of (de_op or_mulX os_mulX (db_of de_int) (db_var 1 (pv 1) (.inl (by rfl))))) (db_of (de_bltn (cr_sum rfl) cs_sum (by rfl) T.n_sum (by decide +kernel) (dm_bor (db_own (de_lc (own := [("_law_number", 2)]) rfl sc_l_cell.nd (di_list (de_var 0 (pv 0) rfl)) (blkOk_by (own := [("_law_number", 2)]) (N := ["_law_script", "_law_k", "_law_number"]) (sc := defScope s_l_cell) (by decide +kernel)) (fun _ _ _ _ _ => (dg_name 2 sc_l_cell.nd rfl (by first | exact Or.inl rfl | exact Or.inr rfl))) (fun _ _ _ _ _ => dt_nil) (fun _ _ _ _ _ => (de_op op_mod os_mod (db_of (de_type cr_int cs_int (by rfl) T.n_int (by decide +kernel) (dm_bor (db_var 2 (pv 2) (.inl (by rfl))) dm_nil))) (db_of de_int))))) dm_nil))))))))
theorem ok_l_row (T : Txt w K mg) : FnOk P w K mg base (L2N.CX P w) 1 T.f_l_row T.fd_l_row ["_law_cell_here", "_law_limits"] (spD K T.cm [false, false] false F_l_row)   := dok (G' := []) (k := 0) T.F_l_row sc_l_row rfl (by decide) fun cdv A outer s H E hr =>
  (ds_cons (ds_setO 2 gok0 (show 2 < 6 by decide) sc_l_row.nd rfl (by first | exact Or.inl rfl | exact Or.inr rfl) (de_lst da_nil))
  (ds_cons (ds_set 3 gok0 sc_l_row.nd rfl (by first | exact Or.inl rfl | exact Or.inr rfl) (de_bltn (call_max2 rfl) cs_ints2 (by rfl) T.n_max (by decide +kernel) (dm_bor (db_of de_int) (dm_bor (db_of (de_op op_sub os_sub (db_var 0 (pv 0) (.inl (by rfl))) (db_of (de_op op_pow os_pow (db_of de_int) (db_of de_int))))) dm_nil))))
  (ds_cons (ds_for gok0 (passes_of rfl) rfl (di_rng1 T.n_range (by rfl) (da_cons (de_bltn call_len cs_len (by rfl) T.n_len (by decide +kernel) (dm_bor (db_var 1 (pv 1) (.inl (by rfl))) dm_nil)) da_nil)) (dg_name 4 sc_l_row.nd rfl (by first | exact Or.inl rfl | exact Or.inr rfl))
  (ds_one (ds_if gok0 (PW.pt (dw_or (dt_cmp or_gt os_ord (db_var 3 (pv 3) (.inl (by rfl))) (db_of de_int) (nomark _)) (dw_or1 (dt_cmp (or_eq hr.units) os_eq (db_var 0 (pv 0) (.inl (by rfl))) (db_of (de_op op_pow os_pow (db_of de_int) (db_of de_int))) (nomark _)))))
  (ds_cons (ds_app 2 gok0 rfl (pv 2) (de_op op_mod os_mod (db_of (de_type cr_int cs_int (by rfl) T.n_int (by decide +kernel) (dm_bor (db_var 3 (pv 3) (.inl (by rfl))) dm_nil))) (db_of (de_ix (db_var 1 (pv 1) (.inl (by rfl))) (db_var 4 (pv 4) (.inl (by rfl))) (fun _ _ => rfl)))))
  (ds_one (ds_set 3 gok0 sc_l_row.nd rfl (by first | exact Or.inl rfl | exact Or.inr rfl) (de_op or_fdiv os_fdiv (db_var 3 (pv 3) (.inl (by rfl))) (db_of (de_ix (db_var 1 (pv 1) (.inl (by rfl))) (db_var 4 (pv 4) (.inl (by rfl))) (fun _ _ => rfl)))))))
  (ds_cons (ds_set 5 gok0 sc_l_row.nd rfl (by first | exact Or.inl rfl | exact Or.inr rfl) (de_op op_mod os_mod (db_of (de_type cr_int cs_int (by rfl) T.n_int (by decide +kernel) (dm_bor (db_of (de_op or_add os_add (db_of (de_op or_add os_add (db_of (de_op or_mulX os_mulX (db_var 0 (pv 0) (.inl (by rfl))) (db_of de_int))) (db_of (de_op or_mulX os_mulX (db_var 4 (pv 4) (.inl (by rfl))) (db_of de_int))))) (db_of de_int))) dm_nil))) (db_of de_int)))
  (ds_cons (ds_set 5 gok0 sc_l_row.nd rfl (by first | exact Or.inl rfl | exact Or.inr rfl) (de_op op_mod os_mod (db_of (de_type cr_int cs_int (by rfl) T.n_int (by decide +kernel) (dm_bor (db_of (de_op or_add os_add (db_of (de_op or_add os_add (db_of (de_op or_mulX os_mulX (db_var 5 (pv 5) (.inl (by rfl))) (db_of (de_op or_add os_add (db_of de_int) (db_of (de_op or_mulX os_mulX (db_of de_int) (db_var 4 (pv 4) (.inl (by rfl))))))))) (db_of (de_op or_mulX os_mulX (db_of (de_op or_mulX os_mulX (db_var 4 (pv 4) (.inl (by rfl))) (db_var 4 (pv 4) (.inl (by rfl))))) (db_of de_int))))) (db_of de_int))) dm_nil))) (db_of de_int)))
  (ds_one (ds_app 2 gok0 rfl (pv 2) (de_op op_mod os_mod (db_of (de_type cr_int cs_int (by rfl) T.n_int (by decide +kernel) (dm_bor (db_of (de_op or_fdiv os_fdiv (db_var 5 (pv 5) (.inl (by rfl))) (db_of de_int))) dm_nil))) (db_of (de_ix (db_var 1 (pv 1) (.inl (by rfl))) (db_var 4 (pv 4) (.inl (by rfl))) (fun _ _ => rfl)))))))))))
  (ds_pub 2 (ds_one (ds_ret gok0 rfl (de_var 2 (pv 2) rfl))) (.inl rfl)))))
theorem ok_l_names (T : Txt w K mg) : FnOk P w K mg base (L2N.CX P w) 2 T.f_l_names T.fd_l_names ["_law_cell_here", "_law_many"] (spD K T.cm [false, false] false F_l_names)   := dok (G' := []) (k := 1) T.F_l_names sc_l_names rfl (by decide) fun cdv A outer s H E hr =>
  (ds_cons (ds_set 2 gok0 sc_l_names.nd rfl (by first | exact Or.inl rfl | exact Or.inr rfl) (de_strL (by decide +kernel)))
  (ds_cons (ds_set 3 gok0 sc_l_names.nd rfl (by first | exact Or.inl rfl | exact Or.inr rfl) (de_callV (ok_l_row T) (L2N.takes_of rfl rfl rfl rfl) (hr.mono (by decide)) (by rfl) T.g_l_row T.F_l_row.kp T.b_l_row (dm_val (de_var 0 (pv 0) rfl) (dm_val (de_op or_add os_add (db_own (de_lst (da_cons de_int (da_cons de_int da_nil)))) (db_of (de_op or_mulX os_mulX (db_own (de_lst (da_cons de_int (da_cons de_int (da_cons de_int (da_cons de_int (da_cons de_int (da_cons de_int (da_cons de_int (da_cons de_int (da_cons de_int da_nil))))))))))) (db_var 1 (pv 1) (.inl (by rfl)))))) dm_nil))))
  (ds_cons (ds_setO 4 gok0 (show 4 < 11 by decide) sc_l_names.nd rfl (by first | exact Or.inl rfl | exact Or.inr rfl) (de_lst da_nil))
  (ds_cons (ds_for gok0 (passes_of rfl) rfl (di_rng1 T.n_range (by rfl) (da_cons (de_var 1 (pv 1) rfl) da_nil)) (dg_name 5 sc_l_names.nd rfl (by first | exact Or.inl rfl | exact Or.inr rfl))
  (ds_cons (ds_set 6 gok0 sc_l_names.nd rfl (by first | exact Or.inl rfl | exact Or.inr rfl) (de_m1 PySem.F.slot_str_join PySem.F.type_str_join mt_join ms_join (db_of (de_strL (by decide +kernel))) (db_own (de_lc (own := [("_law_pick", 7)]) rfl sc_l_names.nd (di_list (de_sl (db_var 3 (pv 3) (.inl (by rfl))) (dp_some (de_op or_add os_add (db_of (de_op or_mulX os_mulX (db_of de_int) (db_var 5 (pv 5) (.inl (by rfl))))) (db_of de_int))) (dp_some (de_op or_add os_add (db_of (de_op or_mulX os_mulX (db_of de_int) (db_var 5 (pv 5) (.inl (by rfl))))) (db_of de_int))))) (blkOk_by (own := [("_law_pick", 7)]) (N := ["_law_cell_here", "_law_many", "_law_letters", "_law_row_here", "_law_names_here", "_law_k", "_law_word", "_law_pick", "_law_first", "_law_at", "_law_letter"]) (sc := defScope s_l_names) (by decide +kernel)) (fun _ _ _ _ _ => (dg_name 7 sc_l_names.nd rfl (by first | exact Or.inl rfl | exact Or.inr rfl))) (fun _ _ _ _ _ => dt_nil) (fun _ _ _ _ _ => (de_ix (db_var 2 (pv 2) (.inl (by rfl))) (db_var 7 (pv 7) (.inl (by rfl))) (fun _ _ => rfl)))))))
  (ds_one (ds_app 4 gok0 rfl (pv 4) (de_sl (db_var 6 (pv 6) (.inl (by rfl))) dp_none (dp_some (de_op or_add os_add (db_of (de_ix (db_var 3 (pv 3) (.inl (by rfl))) (db_of (de_op or_add os_add (db_of (de_op or_mulX os_mulX (db_of de_int) (db_var 5 (pv 5) (.inl (by rfl))))) (db_of de_int))) (fun _ _ => rfl))) (db_of de_int))))))))
  (ds_cons (ds_set 8 gok0 sc_l_names.nd rfl (by first | exact Or.inl rfl | exact Or.inr rfl) (de_ix (db_var 4 (pv 4) (.inr (.inl (by trivial)))) (db_of de_int) (fun _ _ => rfl)))
  (ds_cons (ds_set 9 gok0 sc_l_names.nd rfl (by first | exact Or.inl rfl | exact Or.inr rfl) (de_op op_mod os_mod (db_of (de_type cr_int cs_int (by rfl) T.n_int (by decide +kernel) (dm_bor (db_of (de_ix (db_var 3 (pv 3) (.inl (by rfl))) (db_of de_int) (fun _ _ => rfl))) dm_nil))) (db_of (de_bltn call_len cs_len (by rfl) T.n_len (by decide +kernel) (dm_bor (db_var 8 (pv 8) (.inl (by rfl))) dm_nil)))))
  (ds_cons (ds_for gok0 (passes_of rfl) rfl (di_rng1 T.n_range (by rfl) (da_cons (de_var 1 (pv 1) rfl) da_nil)) (dg_name 5 sc_l_names.nd rfl (by first | exact Or.inl rfl | exact Or.inr rfl))
  (ds_cons (ds_if gok0 (dt_cmp (or_eq hr.units) os_eq (db_of (de_ix (db_var 3 (pv 3) (.inl (by rfl))) (db_of de_int) (fun _ _ => rfl))) (db_of de_int) (nomark _))
  (ds_cons (ds_set 10 gok0 sc_l_names.nd rfl (by first | exact Or.inl rfl | exact Or.inr rfl) (de_ix (db_var 2 (pv 2) (.inl (by rfl))) (db_of (de_op op_mod os_mod (db_of (de_type cr_int cs_int (by rfl) T.n_int (by decide +kernel) (dm_bor (db_of (de_op or_add os_add (db_of (de_ix (db_var 3 (pv 3) (.inl (by rfl))) (db_of de_int) (fun _ _ => rfl))) (db_of (de_op or_mulX os_mulX (db_of de_int) (db_var 5 (pv 5) (.inl (by rfl))))))) dm_nil))) (db_of de_int))) (fun _ _ => rfl)))
  (ds_one (ds_sto 4 gok0 rfl (pv 4) (de_var 5 (pv 5) rfl) (de_op or_add os_add (db_of (de_op or_add os_add (db_of (de_sl (db_var 8 (pv 8) (.inl (by rfl))) dp_none (dp_some (de_var 9 (pv 9) rfl)))) (db_var 10 (pv 10) (.inl (by rfl))))) (db_of (de_sl (db_var 8 (pv 8) (.inl (by rfl))) (dp_some (de_op or_add os_add (db_var 9 (pv 9) (.inl (by rfl))) (db_of de_int))) dp_none))))))
  ds_nil)
  (ds_one (ds_if gok0 (dt_cmp (or_eq hr.units) os_eq (db_of (de_ix (db_var 3 (pv 3) (.inl (by rfl))) (db_of de_int) (fun _ _ => rfl))) (db_of de_int) (nomark _))
  (ds_one (ds_sto 4 gok0 rfl (pv 4) (de_var 5 (pv 5) rfl) (de_sl (db_of (de_op or_mulX os_mulX (db_var 8 (pv 8) (.inl (by rfl))) (db_of de_int))) dp_none (dp_some (de_op or_add os_add (db_of de_int) (db_of (de_op op_mod os_mod (db_of (de_type cr_int cs_int (by rfl) T.n_int (by decide +kernel) (dm_bor (db_var 5 (pv 5) (.inl (by rfl))) dm_nil))) (db_of de_int))))))))
  ds_nil))))
  (ds_pub 4 (ds_one (ds_ret gok0 rfl (de_var 4 (pv 4) rfl))) (.inl rfl)))))))))
theorem ok_l_kinds (T : Txt w K mg) : FnOk P w K mg base (L2N.CX P w) 3 T.f_l_kinds T.fd_l_kinds ["_law_cell_here", "_law_many"] (spD K T.cm [false, false] false F_l_kinds)   := dok (G' := []) (k := 2) T.F_l_kinds sc_l_kinds rfl (by decide) fun cdv A outer s H E hr =>
  (ds_cons (ds_setO 2 gok0 (show 2 < 5 by decide) sc_l_kinds.nd rfl (by first | exact Or.inl rfl | exact Or.inr rfl) (de_lst da_nil))
  (ds_cons (ds_for gok0 (passes_of rfl) rfl (di_list (de_callV (ok_l_names T) (L2N.takes_of rfl rfl rfl rfl) (hr.mono (by decide)) (by rfl) T.g_l_names T.F_l_names.kp T.b_l_names (dm_val (de_var 0 (pv 0) rfl) (dm_val (de_var 1 (pv 1) rfl) dm_nil)))) (dg_name 3 sc_l_kinds.nd rfl (by first | exact Or.inl rfl | exact Or.inr rfl))
  (ds_cons (ds_for gok0 (passes_of rfl) rfl (di_str (de_strL (by decide +kernel))) (dg_name 4 sc_l_kinds.nd rfl (by first | exact Or.inl rfl | exact Or.inr rfl))
  (ds_one (ds_if gok0 (dt_cmp (or_in (hu65 hr)) os_in (db_var 3 (pv 3) (.inl (by rfl))) (db_var 2 (pv 2) (.inr (.inl (by trivial)))) (by rfl))
  (ds_one (ds_set 3 gok0 sc_l_kinds.nd rfl (by first | exact Or.inl rfl | exact Or.inr rfl) (de_op or_add os_add (db_of (de_sl (db_var 3 (pv 3) (.inl (by rfl))) dp_none (dp_some de_int))) (db_var 4 (pv 4) (.inl (by rfl))))))
  ds_nil)))
  (ds_one (ds_app 2 gok0 rfl (pv 2) (de_var 3 (pv 3) rfl)))))
  (ds_pub 2 (ds_one (ds_ret gok0 rfl (de_var 2 (pv 2) rfl))) (.inl rfl))))
theorem ok_l_may (T : Txt w K mg) : FnOk P w K mg base (L2N.CX P w) 1 T.f_l_may T.fd_l_may ["_law_outer", "_law_inner"] (spD K T.cm [false, false] false F_l_may)   := dok (G' := []) (k := 0) T.F_l_may sc_l_may rfl (by decide) fun cdv A outer s H E hr =>
  (ds_cons (ds_if gok0 (dt_cmp (or_eq hr.units) os_eq (db_var 0 (pv 0) (.inl (by rfl))) (db_of (de_strL (by decide +kernel))) (nomark _))
  (ds_one (ds_ret gok0 rfl (de_or (de_cmp (or_eq hr.units) os_eq (db_var 1 (pv 1) (.inl (by rfl))) (db_of (de_strL (by decide +kernel))) (nomark _)) (de_one (de_cmp (or_eq hr.units) os_eq (db_var 1 (pv 1) (.inl (by rfl))) (db_of (de_strL (by decide +kernel))) (nomark _))))))
  ds_nil)
  (ds_cons (ds_if gok0 (dt_cmp (or_eq hr.units) os_eq (db_var 0 (pv 0) (.inl (by rfl))) (db_of (de_strL (by decide +kernel))) (nomark _))
  (ds_one (ds_ret gok0 rfl (de_cmp (or_in (hu65 hr)) os_in (db_var 1 (pv 1) (.inl (by rfl))) (db_own (de_lst (da_cons (de_strL (by decide +kernel)) (da_cons (de_strL (by decide +kernel)) (da_cons (de_strL (by decide +kernel)) (da_cons (de_strL (by decide +kernel)) da_nil)))))) (by rfl))))
  ds_nil)
  (ds_cons (ds_if gok0 (PW.pt (dw_or (dt_cmp (or_eq hr.units) os_eq (db_var 0 (pv 0) (.inl (by rfl))) (db_of (de_strL (by decide +kernel))) (nomark _)) (dw_or1 (dt_cmp (or_eq hr.units) os_eq (db_var 0 (pv 0) (.inl (by rfl))) (db_of (de_strL (by decide +kernel))) (nomark _)))))
  (ds_one (ds_ret gok0 rfl (de_or (de_cmp (or_eq hr.units) os_eq (db_var 1 (pv 1) (.inl (by rfl))) (db_of (de_strL (by decide +kernel))) (nomark _)) (de_one (de_cmp (or_eq hr.units) os_eq (db_var 1 (pv 1) (.inl (by rfl))) (db_of (de_strL (by decide +kernel))) (nomark _))))))
  ds_nil)
  (ds_one (ds_ret gok0 rfl (de_and (de_or (de_cmp (or_eq hr.units) os_eq (db_var 0 (pv 0) (.inl (by rfl))) (db_of (de_strL (by decide +kernel))) (nomark _)) (de_one (de_cmp (or_eq hr.units) os_eq (db_var 0 (pv 0) (.inl (by rfl))) (db_of (de_strL (by decide +kernel))) (nomark _)))) (de_one (de_cmp (or_eq hr.units) os_eq (db_var 1 (pv 1) (.inl (by rfl))) (db_of (de_strL (by decide +kernel))) (nomark _)))))))))
theorem ok_l_grammar (T : Txt w K mg) : FnOk P w K mg base (L2N.CX P w) 2 T.f_l_grammar T.fd_l_grammar ["_law_cell_here", "_law_kinds_here"] (spD K T.cm [false, false] false F_l_grammar)   := dok (G' := []) (k := 1) T.F_l_grammar sc_l_grammar rfl (by decide) fun cdv A outer s H E hr =>
  (ds_cons (ds_set 2 gok0 sc_l_grammar.nd rfl (by first | exact Or.inl rfl | exact Or.inr rfl) (de_bltn call_len cs_len (by rfl) T.n_len (by decide +kernel) (dm_bor (db_var 1 (pv 1) (.inl (by rfl))) dm_nil)))
  (ds_cons (ds_set 3 gok0 sc_l_grammar.nd rfl (by first | exact Or.inl rfl | exact Or.inr rfl) (de_callV (ok_l_row T) (L2N.takes_of rfl rfl rfl rfl) (hr.mono (by decide)) (by rfl) T.g_l_row T.F_l_row.kp T.b_l_row (dm_val (de_var 0 (pv 0) rfl) (dm_val (de_op or_add os_add (db_own (de_lst (da_cons (de_var 2 (pv 2) rfl) (da_cons de_int da_nil)))) (db_of (de_op or_mulX os_mulX (db_own (de_lst (da_cons de_int (da_cons de_int (da_cons (de_var 2 (pv 2) rfl) da_nil))))) (db_var 2 (pv 2) (.inl (by rfl)))))) dm_nil))))
  (ds_cons (ds_set 4 gok0 sc_l_grammar.nd rfl (by first | exact Or.inl rfl | exact Or.inr rfl) (de_pub (de_lst (da_cons (de_strL (by decide +kernel)) (da_cons (de_strL (by decide +kernel)) (da_cons (de_strL (by decide +kernel)) (da_cons (de_strL (by decide +kernel)) (da_cons (de_strL (by decide +kernel)) (da_cons (de_strL (by decide +kernel)) (da_cons (de_strL (by decide +kernel)) (da_cons (de_strL (by decide +kernel)) (da_cons (de_strL (by decide +kernel)) da_nil))))))))))))
  (ds_cons (ds_setLc 5 gok0 (by decide) rfl sc_l_grammar.nd rfl rfl (sw_true rfl rfl rfl (by decide +kernel)) (own := [("_law_k", 6)]) (di_rng1 T.n_range (by rfl) (da_cons (de_var 2 (pv 2) rfl) da_nil)) (blkOk_by (own := [("_law_k", 6)]) (N := ["_law_cell_here", "_law_kinds_here", "_law_many", "_law_row_here", "_law_menu", "_law_roles", "_law_k", "_law_rows", "_law_bits", "_law_inner", "_law_j", "_law_at"]) (sc := defScope s_l_grammar) (by decide +kernel)) (fun _ _ _ _ _ => (dg_name 6 sc_l_grammar.nd rfl (by first | exact Or.inl rfl | exact Or.inr rfl))) (fun _ _ _ _ _ => dt_nil) (fun _ _ _ _ _ => (de_ix (db_var 4 (pv 4) (.inl (by rfl))) (db_of (de_ix (db_var 3 (pv 3) (.inl (by rfl))) (db_of (de_op or_add os_add (db_of (de_op or_mulX os_mulX (db_of de_int) (db_var 6 (pv 6) (.inl (by rfl))))) (db_of de_int))) (fun _ _ => rfl))) (fun _ _ => rfl))))
  (ds_cons (ds_sto 5 gok0 rfl (pv 5) (de_ix (db_var 3 (pv 3) (.inl (by rfl))) (db_of de_int) (fun _ _ => rfl)) (de_strL (by decide +kernel)))
  (ds_cons (ds_setO 7 gok0 (show 7 < 12 by decide) sc_l_grammar.nd rfl (by first | exact Or.inl rfl | exact Or.inr rfl) (de_lst da_nil))
  (ds_cons (ds_for gok0 (passes_of rfl) rfl (di_rng1 T.n_range (by rfl) (da_cons (de_var 2 (pv 2) rfl) da_nil)) (dg_name 6 sc_l_grammar.nd rfl (by first | exact Or.inl rfl | exact Or.inr rfl))
  (ds_pubE (G' := [.v, .v, .v, .v, .v, .o, .v, .o, .v, .o, .v, .v]) 9 (ds_cons (ds_parVO 8 9 gok0 rfl sc_l_grammar.nd rfl rfl (by decide) (by decide) rfl rfl (de_ix (db_var 3 (pv 3) (.inl (by rfl))) (db_of (de_op or_add os_add (db_of (de_op or_mulX os_mulX (db_of de_int) (db_var 6 (pv 6) (.inl (by rfl))))) (db_of de_int))) (fun _ _ => rfl)) (de_lst da_nil) (by rfl))
  (ds_cons (ds_for gok0 (passes_of rfl) rfl (di_rng1 T.n_range (by rfl) (da_cons (de_var 2 (pv 2) rfl) da_nil)) (dg_name 10 sc_l_grammar.nd rfl (by first | exact Or.inl rfl | exact Or.inr rfl))
  (ds_cons (ds_set 11 gok0 sc_l_grammar.nd rfl (by first | exact Or.inl rfl | exact Or.inr rfl) (de_op op_mod os_mod (db_of (de_type cr_int cs_int (by rfl) T.n_int (by decide +kernel) (dm_bor (db_of (de_op or_add os_add (db_var 10 (pv 10) (.inl (by rfl))) (db_of (de_ix (db_var 3 (pv 3) (.inl (by rfl))) (db_of (de_op or_add os_add (db_of (de_op or_mulX os_mulX (db_of de_int) (db_var 6 (pv 6) (.inl (by rfl))))) (db_of de_int))) (fun _ _ => rfl))))) dm_nil))) (db_var 2 (pv 2) (.inl (by rfl)))))
  (ds_cons (ds_if gok0 (PW.pt (dw_and (dt_cmp (or_eq hr.units) os_eq (db_of (de_op op_mod os_mod (db_of (de_type cr_int cs_int (by rfl) T.n_int (by decide +kernel) (dm_bor (db_var 8 (pv 8) (.inl (by rfl))) dm_nil))) (db_of de_int))) (db_of de_int) (nomark _)) (dw_and1 (dt_val (de_callV (ok_l_may T) (L2N.takes_of rfl rfl rfl rfl) (hr.mono (by decide)) (by rfl) T.g_l_may T.F_l_may.kp T.b_l_may (dm_val (de_ix (db_var 5 (pv 5) (.inr (.inl (by trivial)))) (db_var 6 (pv 6) (.inl (by rfl))) (fun _ _ => rfl)) (dm_val (de_ix (db_var 5 (pv 5) (.inr (.inl (by trivial)))) (db_var 11 (pv 11) (.inl (by rfl))) (fun _ _ => rfl)) dm_nil)))))))
  (ds_one (ds_app 9 gok0 rfl (pv 9) (de_ix (db_var 1 (pv 1) (.inl (by rfl))) (db_var 11 (pv 11) (.inl (by rfl))) (fun _ _ => rfl))))
  ds_nil)
  (ds_one (ds_set 8 gok0 sc_l_grammar.nd rfl (by first | exact Or.inl rfl | exact Or.inr rfl) (de_op or_fdiv os_fdiv (db_var 8 (pv 8) (.inl (by rfl))) (db_of de_int)))))))
  (ds_cons (ds_if gok0 (dt_cmp (or_eq hr.units) os_eq (db_of (de_ix (db_var 3 (pv 3) (.inl (by rfl))) (db_of de_int) (fun _ _ => rfl))) (db_of de_int) (nomark _))
  (ds_one (ds_rev 9 rfl (pv 9)))
  ds_nil)
  (ds_one (ds_app 7 gok0 rfl (pv 7) (de_tup (da_cons (de_ix (db_var 1 (pv 1) (.inl (by rfl))) (db_var 6 (pv 6) (.inl (by rfl))) (fun _ _ => rfl)) (da_cons (de_ix (db_var 5 (pv 5) (.inr (.inl (by trivial)))) (db_var 6 (pv 6) (.inl (by rfl))) (fun _ _ => rfl)) (da_cons (de_type call_tuple_of cs_tuple (by rfl) T.n_tuple (by decide +kernel) (dm_bor (db_var 9 (pv 9) (.inr (.inl (by trivial)))) dm_nil)) da_nil))))))))) (.inl rfl)))
  (ds_pub 7 (ds_one (ds_ret gok0 rfl (de_tup (da_cons (de_ix (db_var 1 (pv 1) (.inl (by rfl))) (db_of (de_ix (db_var 3 (pv 3) (.inl (by rfl))) (db_of de_int) (fun _ _ => rfl))) (fun _ _ => rfl)) (da_cons (de_var 7 (pv 7) rfl) da_nil))))) (.inl rfl)))))))))
theorem ok_l_usual (T : Txt w K mg) : FnOk P w K mg base (L2N.CX P w) 1 T.f_l_usual T.fd_l_usual [] (spD K T.cm [] false F_l_usual)   := dok (G' := []) (k := 0) T.F_l_usual sc_l_usual rfl (by decide) fun cdv A outer s H E hr =>
  (ds_one (ds_ret gok0 rfl (de_pub (de_lst (da_cons (de_tup (da_cons (de_strL (by decide +kernel)) (da_cons (de_strL (by decide +kernel)) (da_cons (de_tup (da_cons (de_strL (by decide +kernel)) (da_cons (de_strL (by decide +kernel)) da_nil))) da_nil)))) (da_cons (de_tup (da_cons (de_strL (by decide +kernel)) (da_cons (de_strL (by decide +kernel)) (da_cons (de_tup (da_cons (de_strL (by decide +kernel)) (da_cons (de_strL (by decide +kernel)) da_nil))) da_nil)))) (da_cons (de_tup (da_cons (de_strL (by decide +kernel)) (da_cons (de_strL (by decide +kernel)) (da_cons (de_tup (da_cons (de_strL (by decide +kernel)) (da_cons (de_strL (by decide +kernel)) (da_cons (de_strL (by decide +kernel)) (da_cons (de_strL (by decide +kernel)) da_nil))))) da_nil)))) (da_cons (de_tup (da_cons (de_strL (by decide +kernel)) (da_cons (de_strL (by decide +kernel)) (da_cons (de_tup (da_cons (de_strL (by decide +kernel)) (da_cons (de_strL (by decide +kernel)) da_nil))) da_nil)))) (da_cons (de_tup (da_cons (de_strL (by decide +kernel)) (da_cons (de_strL (by decide +kernel)) (da_cons (de_tup (da_cons (de_strL (by decide +kernel)) da_nil)) da_nil)))) (da_cons (de_tup (da_cons (de_strL (by decide +kernel)) (da_cons (de_strL (by decide +kernel)) (da_cons (de_tup (da_cons (de_strL (by decide +kernel)) da_nil)) da_nil)))) (da_cons (de_tup (da_cons (de_strL (by decide +kernel)) (da_cons (de_strL (by decide +kernel)) (da_cons (de_tup da_nil) da_nil)))) da_nil)))))))))))
theorem ok_l_table (T : Txt w K mg) : FnOk P w K mg base (L2N.CX P w) 1 T.f_l_table T.fd_l_table ["_law_rows"] (spD K T.cm [false] false F_l_table)   := dok (G' := []) (k := 0) T.F_l_table sc_l_table rfl (by decide) fun cdv A outer s H E hr =>
  (ds_cons (ds_setO 1 gok0 (show 1 < 3 by decide) sc_l_table.nd rfl (by first | exact Or.inl rfl | exact Or.inr rfl) de_dnew)
  (ds_cons (ds_for gok0 (passes_of rfl) rfl (di_list (de_var 0 (pv 0) rfl)) (dg_name 2 sc_l_table.nd rfl (by first | exact Or.inl rfl | exact Or.inr rfl))
  (ds_one (ds_put 1 gok0 (hu65 hr) rfl (pv 1) (de_ix (db_var 2 (pv 2) (.inl (by rfl))) (db_of de_int) (fun _ _ => rfl)) (de_tup (da_cons (de_ix (db_var 2 (pv 2) (.inl (by rfl))) (db_of de_int) (fun _ _ => rfl)) (da_cons (de_ix (db_var 2 (pv 2) (.inl (by rfl))) (db_of de_int) (fun _ _ => rfl)) da_nil))))))
  (ds_pub 1 (ds_one (ds_ret gok0 rfl (de_var 1 (pv 1) rfl))) (.inl rfl))))
theorem ok_l_ways (T : Txt w K mg) : FnOk P w K mg base (L2N.CX P w) 1 T.f_l_ways T.fd_l_ways ["_law_kinds_here", "_law_many", "_law_counts_here"] (spD K T.cm [false, false, true] false F_l_ways)   := dok (G' := []) (k := 0) T.F_l_ways sc_l_ways rfl (by decide) fun cdv A outer s H E hr =>
  (ds_cons (ds_setO 3 gok0 (show 3 < 8 by decide) sc_l_ways.nd rfl (by first | exact Or.inl rfl | exact Or.inr rfl) (de_lst (da_cons de_int da_nil)))
  (ds_cons (ds_for gok0 (passes_of rfl) rfl (di_rng2 T.n_range (by rfl) (da_cons de_int (da_cons (de_op or_add os_add (db_var 1 (pv 1) (.inl (by rfl))) (db_of de_int)) da_nil))) (dg_name 4 sc_l_ways.nd rfl (by first | exact Or.inl rfl | exact Or.inr rfl))
  (ds_cons (ds_set 5 gok0 sc_l_ways.nd rfl (by first | exact Or.inl rfl | exact Or.inr rfl) de_int)
  (ds_cons (ds_for gok0 (passes_of rfl) rfl (di_rng2 T.n_range (by rfl) (da_cons de_int (da_cons (de_op or_add os_add (db_var 4 (pv 4) (.inl (by rfl))) (db_of de_int)) da_nil))) (dg_name 6 sc_l_ways.nd rfl (by first | exact Or.inl rfl | exact Or.inr rfl))
  (ds_one (ds_set 5 gok0 sc_l_ways.nd rfl (by first | exact Or.inl rfl | exact Or.inr rfl) (de_op or_add os_add (db_var 5 (pv 5) (.inl (by rfl))) (db_of (de_op or_mulX os_mulX (db_of (de_bltn (cr_sum rfl) cs_sum (by rfl) T.n_sum (by decide +kernel) (dm_bor (db_own (de_lc (own := [("_law_kind", 7)]) rfl sc_l_ways.nd (di_tup (de_var 0 (pv 0) rfl)) (blkOk_by (own := [("_law_kind", 7)]) (N := ["_law_kinds_here", "_law_many", "_law_counts_here", "_law_ways_here", "_law_total", "_law_found", "_law_size_here", "_law_kind"]) (sc := defScope s_l_ways) (by decide +kernel)) (fun _ _ _ _ _ => (dg_name 7 sc_l_ways.nd rfl (by first | exact Or.inl rfl | exact Or.inr rfl))) (fun _ _ _ _ _ => dt_nil) (fun _ _ _ _ _ => (de_getZ (hu65 hr) (db_var 2 (pv 2) (.inr (.inr (by rfl)))) (db_of (de_tup (da_cons (de_var 7 (pv 7) rfl) (da_cons (de_var 6 (pv 6) rfl) da_nil)))) (fun _ _ => rfl))))) dm_nil))) (db_of (de_ix (db_var 3 (pv 3) (.inr (.inl (by trivial)))) (db_of (de_op op_sub os_sub (db_var 4 (pv 4) (.inl (by rfl))) (db_var 6 (pv 6) (.inl (by rfl))))) (fun _ _ => rfl)))))))))
  (ds_one (ds_app 3 gok0 rfl (pv 3) (de_var 5 (pv 5) rfl))))))
  (ds_one (ds_ret gok0 rfl (de_ix (db_var 3 (pv 3) (.inr (.inl (by trivial)))) (db_var 1 (pv 1) (.inl (by rfl))) (fun _ _ => rfl))))))
theorem ok_l_counts (T : Txt w K mg) : FnOk P w K mg base (L2N.CX P w) 2 T.f_l_counts T.fd_l_counts ["_law_rows", "_law_marks"] (spD K T.cm [false, false] false F_l_counts)   := dok (G' := []) (k := 1) T.F_l_counts sc_l_counts rfl (by decide) fun cdv A outer s H E hr =>
  (ds_cons (ds_setO 2 gok0 (show 2 < 5 by decide) sc_l_counts.nd rfl (by first | exact Or.inl rfl | exact Or.inr rfl) de_dnewT)
  (ds_cons (ds_for gok0 (passes_of rfl) rfl (di_rng2 T.n_range (by rfl) (da_cons de_int (da_cons de_int da_nil))) (dg_name 3 sc_l_counts.nd rfl (by first | exact Or.inl rfl | exact Or.inr rfl))
  (ds_one (ds_for gok0 (passes_of rfl) rfl (di_list (de_var 0 (pv 0) rfl)) (dg_name 4 sc_l_counts.nd rfl (by first | exact Or.inl rfl | exact Or.inr rfl))
  (ds_one (ds_putT 2 gok0 hr rfl (pv 2) (de_tup (da_cons (de_ix (db_var 4 (pv 4) (.inl (by rfl))) (db_of de_int) (fun _ _ => rfl)) (da_cons (de_var 3 (pv 3) rfl) da_nil))) (de_op or_mulX os_mulX (db_of (de_bltn call_len cs_len (by rfl) T.n_len (by decide +kernel) (dm_bor (db_var 1 (pv 1) (.inl (by rfl))) dm_nil))) (db_of (de_callV (ok_l_ways T) (L2N.takes_of rfl rfl rfl rfl) (hr.mono (by decide)) (by rfl) T.g_l_ways T.F_l_ways.kp T.b_l_ways (dm_val (de_ix (db_var 4 (pv 4) (.inl (by rfl))) (db_of de_int) (fun _ _ => rfl)) (dm_val (de_op op_sub os_sub (db_var 3 (pv 3) (.inl (by rfl))) (db_of de_int)) (dm_bor (db_var 2 (pv 2) (.inr (.inl (by trivial)))) dm_nil)))))))))))
  (ds_pub 2 (ds_one (ds_ret gok0 rfl (de_var 2 (pv 2) rfl))) (.inl rfl))))
theorem ok_l_size (T : Txt w K mg) : ∀ {n : Nat}, FnOk P w K mg base (L2N.CX P w) (1 + n) T.f_l_size T.fd_l_size ["_law_node", "_law_kinds_here", "_law_table_here", "_law_marks"] (spD K T.cm [false, false, false, false] false (F_l_size n))
  | 0 => fnok_bad
  | n + 1 => dok (G' := []) (k := 1 + n) T.F_l_size sc_l_size rfl (by decide) fun cdv A outer s H E hr => by
    have ih := fun T => ok_l_size T (n := n)
    exact (ds_cons (ds_if gok0 (PW.pt (dw_or (dt_not (dt_val (de_isi "tuple" T.n_isinstance (by rfl) (by rfl) T.n_tuple (by decide +kernel) (db_var 0 (pv 0) (.inl (by rfl)))))) (dw_or (dt_cmp (or_ne hr.units) os_ne (db_of (de_bltn call_len cs_len (by rfl) T.n_len (by decide +kernel) (dm_bor (db_var 0 (pv 0) (.inl (by rfl))) dm_nil))) (db_of de_int) (nomark _)) (dw_or1 (dt_not (dt_val (de_isi "tuple" T.n_isinstance (by rfl) (by rfl) T.n_tuple (by decide +kernel) (db_of (de_ix (db_var 0 (pv 0) (.inl (by rfl))) (db_of de_int) (fun _ _ => rfl))))))))))
  (ds_one (ds_ret gok0 rfl de_int))
  ds_nil)
  (ds_cons (ds_if gok0 (PW.pt (dw_or (dt_not (dt_val (de_isi "str" T.n_isinstance (by rfl) (by rfl) T.n_str (by decide +kernel) (db_of (de_ix (db_var 0 (pv 0) (.inl (by rfl))) (db_of de_int) (fun _ _ => rfl)))))) (dw_or (dt_cmp (or_nin (hu65 hr)) os_nin (db_of (de_ix (db_var 0 (pv 0) (.inl (by rfl))) (db_of de_int) (fun _ _ => rfl))) (db_var 1 (pv 1) (.inl (by rfl))) (by rfl)) (dw_or (dt_not (dt_val (de_isi "str" T.n_isinstance (by rfl) (by rfl) T.n_str (by decide +kernel) (db_of (de_ix (db_var 0 (pv 0) (.inl (by rfl))) (db_of de_int) (fun _ _ => rfl)))))) (dw_or1 (dt_cmp (or_nin (hu65 hr)) os_nin (db_of (de_ix (db_var 0 (pv 0) (.inl (by rfl))) (db_of de_int) (fun _ _ => rfl))) (db_var 3 (pv 3) (.inl (by rfl))) (by rfl)))))))
  (ds_one (ds_ret gok0 rfl de_int))
  ds_nil)
  (ds_cons (ds_set 4 gok0 sc_l_size.nd rfl (by first | exact Or.inl rfl | exact Or.inr rfl) de_int)
  (ds_cons (ds_for gok0 (passes_of rfl) rfl (di_tup (de_ix (db_var 0 (pv 0) (.inl (by rfl))) (db_of de_int) (fun _ _ => rfl))) (dg_name 5 sc_l_size.nd rfl (by first | exact Or.inl rfl | exact Or.inr rfl))
  (ds_cons (ds_set 6 gok0 sc_l_size.nd rfl (by first | exact Or.inl rfl | exact Or.inr rfl) (de_callV (ih T) (L2N.takes_of rfl rfl rfl rfl) hr (by rfl) T.g_l_size T.F_l_size.kp T.b_l_size (dm_val (de_var 5 (pv 5) rfl) (dm_val (de_ix (db_of (de_getZ (hu65 hr) (db_var 2 (pv 2) (.inl (by rfl))) (db_of (de_ix (db_var 0 (pv 0) (.inl (by rfl))) (db_of de_int) (fun _ _ => rfl))) (fun _ _ => rfl))) (db_of de_int) (fun _ _ => rfl)) (dm_val (de_var 2 (pv 2) rfl) (dm_val (de_var 3 (pv 3) rfl) dm_nil))))))
  (ds_cons (ds_if gok0 (dt_cmp (or_eq hr.units) os_eq (db_var 6 (pv 6) (.inl (by rfl))) (db_of de_int) (nomark _))
  (ds_one (ds_ret gok0 rfl de_int))
  ds_nil)
  (ds_one (ds_set 4 gok0 sc_l_size.nd rfl (by first | exact Or.inl rfl | exact Or.inr rfl) (de_op or_add os_add (db_var 4 (pv 4) (.inl (by rfl))) (db_var 6 (pv 6) (.inl (by rfl)))))))))
  (ds_one (ds_ret gok0 rfl (de_var 4 (pv 4) rfl)))))))
theorem ok_l_all (T : Txt w K mg) : FnOk P w K mg base (L2N.CX P w) 27 T.f_l_all T.fd_l_all ["_law_grammar_here", "_law_top", "_law_rows", "_law_size_here", "_law_marks"] (spD K T.cm [false, false, false, false, false] false F_l_all)   := dok (G' := []) (k := 26) T.F_l_all sc_l_all rfl (by decide) fun cdv A outer s H E hr =>
  (ds_cons (ds_set 5 gok0 sc_l_all.nd rfl (by first | exact Or.inl rfl | exact Or.inr rfl) (de_callV (ok_l_table T) (L2N.takes_of rfl rfl rfl rfl) (hr.mono (by decide)) (by rfl) T.g_l_table T.F_l_table.kp T.b_l_table (dm_val (de_var 2 (pv 2) rfl) dm_nil)))
  (ds_cons (ds_set 6 gok0 sc_l_all.nd rfl (by first | exact Or.inl rfl | exact Or.inr rfl) (de_pub (de_type call_list_of cs_list (by rfl) T.n_list (by decide +kernel) (dm_bor (db_var 4 (pv 4) (.inl (by rfl))) dm_nil))))
  (ds_cons (ds_set 7 gok0 sc_l_all.nd rfl (by first | exact Or.inl rfl | exact Or.inr rfl) (de_pub (de_listGen (dg_methG (k := 21) T.cm_Grammar T.cl_Grammar T.m_Grammar_every_tree (ok_Grammar_every_tree T) (hr.mono (by decide)) T.b_Grammar_every_tree (fun r ds h => (congrArg (· + 1) ((dl_cons (dl_cons dl_nil)) r ds h)).trans rfl) (de_var 0 (pv 0) rfl) (da_cons (de_var 3 (pv 3) rfl) (da_cons (de_var 6 (pv 6) rfl) da_nil))) (hr.mono (by decide)) (by rfl) T.n_list (by decide +kernel))))
  (ds_cons (ds_if gok0 (PW.pt (dw_or (dt_cmp (or_ne hr.units) os_ne (db_of (de_bltn call_len cs_len (by rfl) T.n_len (by decide +kernel) (dm_bor (db_var 7 (pv 7) (.inl (by rfl))) dm_nil))) (db_of (de_getZ (hu65 hr) (db_of (de_callV (ok_l_counts T) (L2N.takes_of rfl rfl rfl rfl) (hr.mono (by decide)) (by rfl) T.g_l_counts T.F_l_counts.kp T.b_l_counts (dm_val (de_var 2 (pv 2) rfl) (dm_val (de_var 4 (pv 4) rfl) dm_nil)))) (db_of (de_tup (da_cons (de_var 1 (pv 1) rfl) (da_cons (de_var 3 (pv 3) rfl) da_nil)))) (fun _ _ => rfl))) (nomark _)) (dw_or1 (dt_cmp (or_ne hr.units) os_ne (db_var 6 (pv 6) (.inl (by rfl))) (db_var 4 (pv 4) (.inl (by rfl))) (nomark _)))))
  (ds_one (ds_ret gok0 rfl de_bl))
  ds_nil)
  (ds_cons (ds_for gok0 (passes_of rfl) rfl (di_rng1 T.n_range (by rfl) (da_cons (de_bltn call_len cs_len (by rfl) T.n_len (by decide +kernel) (dm_bor (db_var 7 (pv 7) (.inl (by rfl))) dm_nil)) da_nil)) (dg_name 8 sc_l_all.nd rfl (by first | exact Or.inl rfl | exact Or.inr rfl))
  (ds_cons (ds_if gok0 (dt_cmp (or_ne hr.units) os_ne (db_of (de_callV (ok_l_size (n := 8) T) (L2N.takes_of rfl rfl rfl rfl) (hr.mono (by decide)) (by rfl) T.g_l_size T.F_l_size.kp T.b_l_size (dm_val (de_ix (db_var 7 (pv 7) (.inl (by rfl))) (db_var 8 (pv 8) (.inl (by rfl))) (fun _ _ => rfl)) (dm_val (de_tup (da_cons (de_var 1 (pv 1) rfl) da_nil)) (dm_val (de_var 5 (pv 5) rfl) (dm_val (de_var 4 (pv 4) rfl) dm_nil)))))) (db_var 3 (pv 3) (.inl (by rfl))) (nomark _))
  (ds_one (ds_ret gok0 rfl de_bl))
  ds_nil)
  (ds_cons (ds_if gok0 (PW.pt (dw_and (dt_cmp or_gt os_ord (db_var 8 (pv 8) (.inl (by rfl))) (db_of de_int) (nomark _)) (dw_and1 (dt_not (dt_cmp (op_ltD (Nat.lt_of_succ_lt (hu65 hr))) os_ltD (db_of (de_ix (db_var 7 (pv 7) (.inl (by rfl))) (db_of (de_op op_sub os_sub (db_var 8 (pv 8) (.inl (by rfl))) (db_of de_int))) (fun _ _ => rfl))) (db_of (de_ix (db_var 7 (pv 7) (.inl (by rfl))) (db_var 8 (pv 8) (.inl (by rfl))) (fun _ _ => rfl))) (nomark _))))))
  (ds_one (ds_ret gok0 rfl de_bl))
  ds_nil)
  (ds_one (ds_if gok0 (dt_cmp op_notN os_isnot (db_of (de_meth (rm := false) T.cm_Grammar T.cl_Grammar T.m_Grammar_check (ok_Grammar_check T) (L2N.takes_of rfl rfl rfl rfl) (hr.mono (by decide)) T.b_Grammar_check (db_var 0 (pv 0) (.inl (by rfl))) (dm_val (de_ix (db_var 7 (pv 7) (.inl (by rfl))) (db_var 8 (pv 8) (.inl (by rfl))) (fun _ _ => rfl)) dm_nil))) (db_of de_non) (nomark _))
  (ds_one (ds_ret gok0 rfl de_bl))
  ds_nil)))))
  (ds_one (ds_ret gok0 rfl de_bl)))))))
theorem ok_law (T : Txt w K mg) : FnOk P w K mg base (L2N.CX P w) 28 T.f_law T.fd_law ["_law_script"] (spD K T.cm [false] false F_law)   := dok (G' := []) (k := 27) T.F_law sc_law rfl (by decide) fun cdv A outer s H E hr =>
  (ds_cons (ds_set 1 gok0 sc_law.nd rfl (by first | exact Or.inl rfl | exact Or.inr rfl) (de_callV (ok_l_kinds T) (L2N.takes_of rfl rfl rfl rfl) (hr.mono (by decide)) (by rfl) T.g_l_kinds T.F_l_kinds.kp T.b_l_kinds (dm_val (de_callV (ok_l_cell T) (L2N.takes_of rfl rfl rfl rfl) (hr.mono (by decide)) (by rfl) T.g_l_cell T.F_l_cell.kp T.b_l_cell (dm_val (de_var 0 (pv 0) rfl) (dm_val de_int dm_nil))) (dm_val de_int dm_nil))))
  (ds_cons (ds_set 2 gok0 sc_law.nd rfl (by first | exact Or.inl rfl | exact Or.inr rfl) (de_op or_add os_add (db_of de_int) (db_of (de_op op_mod os_mod (db_of (de_type cr_int cs_int (by rfl) T.n_int (by decide +kernel) (dm_bor (db_of (de_callV (ok_l_cell T) (L2N.takes_of rfl rfl rfl rfl) (hr.mono (by decide)) (by rfl) T.g_l_cell T.F_l_cell.kp T.b_l_cell (dm_val (de_var 0 (pv 0) rfl) (dm_val de_int dm_nil)))) dm_nil))) (db_of de_int)))))
  (ds_cons (ds_asg gok0 (de_callV (ok_l_grammar T) (L2N.takes_of rfl rfl rfl rfl) (hr.mono (by decide)) (by rfl) T.g_l_grammar T.F_l_grammar.kp T.b_l_grammar (dm_val (de_callV (ok_l_cell T) (L2N.takes_of rfl rfl rfl rfl) (hr.mono (by decide)) (by rfl) T.g_l_cell T.F_l_cell.kp T.b_l_cell (dm_val (de_var 0 (pv 0) rfl) (dm_val de_int dm_nil))) (dm_val (de_sl (db_var 1 (pv 1) (.inl (by rfl))) dp_none (dp_some (de_var 2 (pv 2) rfl))) dm_nil))) (dg_tup rfl (dg_cons (dg_name 3 sc_law.nd rfl (by first | exact Or.inl rfl | exact Or.inr rfl)) (dg_cons (dg_name 4 sc_law.nd rfl (by first | exact Or.inl rfl | exact Or.inr rfl)) dg_nil))))
  (ds_cons (ds_par 5 6 gok0 rfl sc_law.nd rfl rfl (by decide) rfl rfl (de_strL (by decide +kernel)) (de_call0 (rm := false) (ok_l_usual T) (L2N.takes_of rfl rfl rfl rfl) (hr.mono (by decide)) (by rfl) T.g_l_usual T.F_l_usual.kp T.b_l_usual) (by rfl))
  (ds_cons (ds_if gok0 (dt_cmp (or_eq hr.units) os_eq (db_of (de_op op_mod os_mod (db_of (de_type cr_int cs_int (by rfl) T.n_int (by decide +kernel) (dm_bor (db_of (de_callV (ok_l_cell T) (L2N.takes_of rfl rfl rfl rfl) (hr.mono (by decide)) (by rfl) T.g_l_cell T.F_l_cell.kp T.b_l_cell (dm_val (de_var 0 (pv 0) rfl) (dm_val de_int dm_nil)))) dm_nil))) (db_of de_int))) (db_of de_int) (nomark _))
  (ds_cons (ds_par 5 6 gok0 rfl sc_law.nd rfl rfl (by decide) rfl rfl (de_var 3 (pv 3) rfl) (de_var 4 (pv 4) rfl) (by rfl))
  (ds_one (ds_par 3 4 gok0 rfl sc_law.nd rfl rfl (by decide) rfl rfl (de_strL (by decide +kernel)) (de_call0 (rm := false) (ok_l_usual T) (L2N.takes_of rfl rfl rfl rfl) (hr.mono (by decide)) (by rfl) T.g_l_usual T.F_l_usual.kp T.b_l_usual) (by rfl))))
  ds_nil)
  (ds_cons (ds_setO 7 gok0 (show 7 < 15 by decide) sc_law.nd rfl (by first | exact Or.inl rfl | exact Or.inr rfl) (de_lst (da_cons (de_strL (by decide +kernel)) (da_cons (de_ix (db_var 1 (pv 1) (.inl (by rfl))) (db_of de_int) (fun _ _ => rfl)) (da_cons (de_ix (db_var 1 (pv 1) (.inl (by rfl))) (db_of de_int) (fun _ _ => rfl)) (da_cons (de_ix (db_var 1 (pv 1) (.inl (by rfl))) (db_of de_int) (fun _ _ => rfl)) da_nil))))))
  (ds_cons (ds_set 8 gok0 sc_law.nd rfl (by first | exact Or.inl rfl | exact Or.inr rfl) (de_callV (ok_l_row T) (L2N.takes_of rfl rfl rfl rfl) (hr.mono (by decide)) (by rfl) T.g_l_row T.F_l_row.kp T.b_l_row (dm_val (de_callV (ok_l_cell T) (L2N.takes_of rfl rfl rfl rfl) (hr.mono (by decide)) (by rfl) T.g_l_cell T.F_l_cell.kp T.b_l_cell (dm_val (de_var 0 (pv 0) rfl) (dm_val de_int dm_nil))) (dm_val (de_pub (de_lst (da_cons de_int (da_cons de_int (da_cons de_int (da_cons de_int da_nil)))))) dm_nil))))
  (ds_cons (ds_setO 9 gok0 (show 9 < 15 by decide) sc_law.nd rfl (by first | exact Or.inl rfl | exact Or.inr rfl) (de_lst da_nil))
  (ds_cons (ds_for gok0 (passes_of rfl) rfl (di_list (de_sl (db_var 8 (pv 8) (.inl (by rfl))) (dp_some de_int) (dp_some (de_op or_add os_add (db_of de_int) (db_of (de_ix (db_own (de_lst (da_cons de_int (da_cons de_int (da_cons de_int (da_cons de_int da_nil)))))) (db_of (de_ix (db_var 8 (pv 8) (.inl (by rfl))) (db_of de_int) (fun _ _ => rfl))) (fun _ _ => rfl))))))) (dg_name 10 sc_law.nd rfl (by first | exact Or.inl rfl | exact Or.inr rfl))
  (ds_one (ds_appPop 9 7 gok0 rfl rfl (pv 9) (pv 7) (de_op op_mod os_mod (db_of (de_type cr_int cs_int (by rfl) T.n_int (by decide +kernel) (dm_bor (db_var 10 (pv 10) (.inl (by rfl))) dm_nil))) (db_of (de_bltn call_len cs_len (by rfl) T.n_len (by decide +kernel) (dm_bor (db_var 7 (pv 7) (.inr (.inl (by trivial)))) dm_nil)))))))
  (ds_cons (ds_set 11 gok0 sc_law.nd rfl (by first | exact Or.inl rfl | exact Or.inr rfl) (de_pub (de_make T.mk_Grammar (ok_Grammar_init T) (L2N.takes_of rfl rfl rfl rfl) (hr.mono (by decide)) (by rfl) T.g_Grammar T.b_Grammar_init (dm_val (de_var 3 (pv 3) rfl) (dm_val (de_pub (de_type call_list_of cs_list (by rfl) T.n_list (by decide +kernel) (dm_bor (db_var 4 (pv 4) (.inl (by rfl))) dm_nil))) dm_nil)))))
  (ds_cons (ds_set 12 gok0 sc_law.nd rfl (by first | exact Or.inl rfl | exact Or.inr rfl) (de_pub (de_make T.mk_Grammar (ok_Grammar_init T) (L2N.takes_of rfl rfl rfl rfl) (hr.mono (by decide)) (by rfl) T.g_Grammar T.b_Grammar_init (dm_val (de_var 5 (pv 5) rfl) (dm_val (de_pub (de_type call_list_of cs_list (by rfl) T.n_list (by decide +kernel) (dm_bor (db_var 6 (pv 6) (.inl (by rfl))) dm_nil))) dm_nil)))))
  (ds_pub 9 (ds_cons (ds_set 13 gok0 sc_law.nd rfl (by first | exact Or.inl rfl | exact Or.inr rfl) (de_callV (ok_l_counts T) (L2N.takes_of rfl rfl rfl rfl) (hr.mono (by decide)) (by rfl) T.g_l_counts T.F_l_counts.kp T.b_l_counts (dm_val (de_var 4 (pv 4) rfl) (dm_val (de_var 9 (pv 9) rfl) dm_nil))))
  (ds_cons (ds_for gok0 (passes_of rfl) rfl (di_rng2 T.n_range (by rfl) (da_cons de_int (da_cons (de_op or_add os_add (db_of de_int) (db_of (de_op op_mod os_mod (db_of (de_type cr_int cs_int (by rfl) T.n_int (by decide +kernel) (dm_bor (db_of (de_callV (ok_l_cell T) (L2N.takes_of rfl rfl rfl rfl) (hr.mono (by decide)) (by rfl) T.g_l_cell T.F_l_cell.kp T.b_l_cell (dm_val (de_var 0 (pv 0) rfl) (dm_val de_int dm_nil)))) dm_nil))) (db_of de_int)))) da_nil))) (dg_name 14 sc_law.nd rfl (by first | exact Or.inl rfl | exact Or.inr rfl))
  (ds_cons (ds_if gok0 (dt_cmp or_gt os_ord (db_of (de_getZ (hu65 hr) (db_var 13 (pv 13) (.inl (by rfl))) (db_of (de_tup (da_cons (de_var 3 (pv 3) rfl) (da_cons (de_var 14 (pv 14) rfl) da_nil)))) (fun _ _ => rfl))) (db_of de_int) (nomark _))
  (ds_one ds_break)
  ds_nil)
  (ds_one (ds_if gok0 (dt_not (dt_val (de_callV (ok_l_all T) (L2N.takes_of rfl rfl rfl rfl) (hr.mono (by decide)) (by rfl) T.g_l_all T.F_l_all.kp T.b_l_all (dm_val (de_var 11 (pv 11) rfl) (dm_val (de_var 3 (pv 3) rfl) (dm_val (de_var 4 (pv 4) rfl) (dm_val (de_var 14 (pv 14) rfl) (dm_val (de_var 9 (pv 9) rfl) dm_nil))))))))
  (ds_one (ds_ret gok0 rfl de_bl))
  ds_nil))))
  (ds_cons (ds_if gok0 (dt_not (dt_val (de_callV (ok_l_all T) (L2N.takes_of rfl rfl rfl rfl) (hr.mono (by decide)) (by rfl) T.g_l_all T.F_l_all.kp T.b_l_all (dm_val (de_var 12 (pv 12) rfl) (dm_val (de_var 5 (pv 5) rfl) (dm_val (de_var 6 (pv 6) rfl) (dm_val de_int (dm_val (de_var 9 (pv 9) rfl) dm_nil))))))))
  (ds_one (ds_ret gok0 rfl de_bl))
  ds_nil)
  (ds_one (ds_ret gok0 rfl (de_callV (ok_l_all T) (L2N.takes_of rfl rfl rfl rfl) (hr.mono (by decide)) (by rfl) T.g_l_all T.F_l_all.kp T.b_l_all (dm_val (de_var 11 (pv 11) rfl) (dm_val (de_var 3 (pv 3) rfl) (dm_val (de_var 4 (pv 4) rfl) (dm_val de_int (dm_val (de_var 9 (pv 9) rfl) dm_nil))))))))))) (.inl rfl)))))))))))))
end
end Lk
end S_P_walk
section S_P_end
set_option Elab.async false
set_option linter.all false
set_option maxRecDepth 100000
set_option maxHeartbeats 4000000
namespace Lk
open PySem L2 Dx PySem.Spec PyProof.Rows
theorem txt_mk {w : World} {K : PySem.W.Frag} {h : Heap} {mg : Str → Option Value} (X : K.In h) (G : h.Ns mainGlobals mg)
    {f0 : Addr} {oc0 kV0 dc0 pm0 cd0 ct0 : Value} {od0 an0 : Option Addr} {sl0 : Array (Option Value)}
    {f1 : Addr} {oc1 kV1 dc1 pm1 cd1 ct1 : Value} {od1 an1 : Option Addr} {sl1 : Array (Option Value)}
    {f2 : Addr} {oc2 kV2 dc2 pm2 cd2 ct2 : Value} {od2 an2 : Option Addr} {sl2 : Array (Option Value)}
    {f3 : Addr} {oc3 kV3 dc3 pm3 cd3 ct3 : Value} {od3 an3 : Option Addr} {sl3 : Array (Option Value)}
    {f4 : Addr} {oc4 kV4 dc4 pm4 cd4 ct4 : Value} {od4 an4 : Option Addr} {sl4 : Array (Option Value)}
    {f5 : Addr} {oc5 kV5 dc5 pm5 cd5 ct5 : Value} {od5 an5 : Option Addr} {sl5 : Array (Option Value)}
    {f6 : Addr} {oc6 kV6 dc6 pm6 cd6 ct6 : Value} {od6 an6 : Option Addr} {sl6 : Array (Option Value)}
    {f7 : Addr} {oc7 kV7 dc7 pm7 cd7 ct7 : Value} {od7 an7 : Option Addr} {sl7 : Array (Option Value)}
    {f8 : Addr} {oc8 kV8 dc8 pm8 cd8 ct8 : Value} {od8 an8 : Option Addr} {sl8 : Array (Option Value)}
    {f9 : Addr} {oc9 kV9 dc9 pm9 cd9 ct9 : Value} {od9 an9 : Option Addr} {sl9 : Array (Option Value)}
    {f10 : Addr} {oc10 kV10 dc10 pm10 cd10 ct10 : Value} {od10 an10 : Option Addr} {sl10 : Array (Option Value)}
    {f11 : Addr} {oc11 kV11 dc11 pm11 cd11 ct11 : Value} {od11 an11 : Option Addr} {sl11 : Array (Option Value)}
    {f12 : Addr} {oc12 kV12 dc12 pm12 cd12 ct12 : Value} {od12 an12 : Option Addr} {sl12 : Array (Option Value)}
    {f13 : Addr} {oc13 kV13 dc13 pm13 cd13 ct13 : Value} {od13 an13 : Option Addr} {sl13 : Array (Option Value)}
    {f14 : Addr} {oc14 kV14 dc14 pm14 cd14 ct14 : Value} {od14 an14 : Option Addr} {sl14 : Array (Option Value)}
    {f15 : Addr} {oc15 kV15 dc15 pm15 cd15 ct15 : Value} {od15 an15 : Option Addr} {sl15 : Array (Option Value)}
    {f16 : Addr} {oc16 kV16 dc16 pm16 cd16 ct16 : Value} {od16 an16 : Option Addr} {sl16 : Array (Option Value)}
    {f17 : Addr} {oc17 kV17 dc17 pm17 cd17 ct17 : Value} {od17 an17 : Option Addr} {sl17 : Array (Option Value)}
    {f18 : Addr} {oc18 kV18 dc18 pm18 cd18 ct18 : Value} {od18 an18 : Option Addr} {sl18 : Array (Option Value)}
    {f19 : Addr} {oc19 kV19 dc19 pm19 cd19 ct19 : Value} {od19 an19 : Option Addr} {sl19 : Array (Option Value)}
    {f20 : Addr} {oc20 kV20 dc20 pm20 cd20 ct20 : Value} {od20 an20 : Option Addr} {sl20 : Array (Option Value)}
    {f21 : Addr} {oc21 kV21 dc21 pm21 cd21 ct21 : Value} {od21 an21 : Option Addr} {sl21 : Array (Option Value)}
    {kt_TEXT_ROLES_0_0 : Tok}
    {kt_TEXT_ROLES_0_1 : Tok}
    {kt_TEXT_ROLES_0_2 : Tok}
    {kt_TEXT_ROLES_0_3 : Tok}
    {kt_TEXT_ROLES_0_4 : Tok}
    {kA_TEXT_ROLES_0 : Addr} {kod_TEXT_ROLES_0 : Option Addr} {kn_TEXT_ROLES_0 : Nat} {ksl_TEXT_ROLES_0 : Array (Option Value)}
    {kA_INNER_ROLES_0 : Addr} {kn_INNER_ROLES_0 : Nat}
    {kh_INNER_ROLES_0 : Int} {kt_INNER_ROLES_0 : Tok}
    {kt_INNER_ROLES_1_0 : Tok}
    {kt_INNER_ROLES_1_1 : Tok}
    {kA_INNER_ROLES_1 : Addr} {kod_INNER_ROLES_1 : Option Addr} {kn_INNER_ROLES_1 : Nat} {ksl_INNER_ROLES_1 : Array (Option Value)}
    {kh_INNER_ROLES_1 : Int} {kt_INNER_ROLES_1 : Tok}
    {kt_INNER_ROLES_2_0 : Tok}
    {kt_INNER_ROLES_2_1 : Tok}
    {kt_INNER_ROLES_2_2 : Tok}
    {kt_INNER_ROLES_2_3 : Tok}
    {kA_INNER_ROLES_2 : Addr} {kod_INNER_ROLES_2 : Option Addr} {kn_INNER_ROLES_2 : Nat} {ksl_INNER_ROLES_2 : Array (Option Value)}
    {kh_INNER_ROLES_2 : Int} {kt_INNER_ROLES_2 : Tok}
    {kt_INNER_ROLES_3_0 : Tok}
    {kt_INNER_ROLES_3_1 : Tok}
    {kA_INNER_ROLES_3 : Addr} {kod_INNER_ROLES_3 : Option Addr} {kn_INNER_ROLES_3 : Nat} {ksl_INNER_ROLES_3 : Array (Option Value)}
    {kh_INNER_ROLES_3 : Int} {kt_INNER_ROLES_3 : Tok}
    {kt_INNER_ROLES_4_0 : Tok}
    {kt_INNER_ROLES_4_1 : Tok}
    {kA_INNER_ROLES_4 : Addr} {kod_INNER_ROLES_4 : Option Addr} {kn_INNER_ROLES_4 : Nat} {ksl_INNER_ROLES_4 : Array (Option Value)}
    {kh_INNER_ROLES_4 : Int} {kt_INNER_ROLES_4 : Tok}
    {kt_INNER_ROLES_5_0 : Tok}
    {kA_INNER_ROLES_5 : Addr} {kod_INNER_ROLES_5 : Option Addr} {kn_INNER_ROLES_5 : Nat} {ksl_INNER_ROLES_5 : Array (Option Value)}
    {kh_INNER_ROLES_5 : Int} {kt_INNER_ROLES_5 : Tok}
    {kt_INNER_ROLES_6_0 : Tok}
    {kA_INNER_ROLES_6 : Addr} {kod_INNER_ROLES_6 : Option Addr} {kn_INNER_ROLES_6 : Nat} {ksl_INNER_ROLES_6 : Array (Option Value)}
    {kh_INNER_ROLES_6 : Int} {kt_INNER_ROLES_6 : Tok}
    {kA_INNER_ROLES_7 : Addr} {kod_INNER_ROLES_7 : Option Addr} {kn_INNER_ROLES_7 : Nat} {ksl_INNER_ROLES_7 : Array (Option Value)}
    {A_Misfit : Addr}
    {A_NoPlace : Addr}
    {A_Strange : Addr}
    {A_Taken : Addr}
    {A_Unknown : Addr}
    {nm_Misfit qq_Misfit : Str} {N_Misfit fI_Misfit : Addr} {bs_Misfit bm_Misfit : List Value} {sn_Misfit : List Str} {sb_Misfit : List Value} {ab_Misfit : Bool} {co_Misfit : Option Bool} {dd_Misfit od_Misfit an_Misfit : Option Addr} {m0_Misfit m1_Misfit m2_Misfit m3_Misfit m5_Misfit : Option Value} {oc_Misfit kV_Misfit dc_Misfit pm_Misfit cd_Misfit ct_Misfit : Value} {sl_Misfit : Array (Option Value)}
    {nm_NoPlace qq_NoPlace : Str} {N_NoPlace fI_NoPlace : Addr} {bs_NoPlace bm_NoPlace : List Value} {sn_NoPlace : List Str} {sb_NoPlace : List Value} {ab_NoPlace : Bool} {co_NoPlace : Option Bool} {dd_NoPlace od_NoPlace an_NoPlace : Option Addr} {m0_NoPlace m1_NoPlace m2_NoPlace m3_NoPlace m5_NoPlace : Option Value} {oc_NoPlace kV_NoPlace dc_NoPlace pm_NoPlace cd_NoPlace ct_NoPlace : Value} {sl_NoPlace : Array (Option Value)}
    {nm_Strange qq_Strange : Str} {N_Strange fI_Strange : Addr} {bs_Strange bm_Strange : List Value} {sn_Strange : List Str} {sb_Strange : List Value} {ab_Strange : Bool} {co_Strange : Option Bool} {dd_Strange od_Strange an_Strange : Option Addr} {m0_Strange m1_Strange m2_Strange m3_Strange m5_Strange : Option Value} {oc_Strange kV_Strange dc_Strange pm_Strange cd_Strange ct_Strange : Value} {sl_Strange : Array (Option Value)}
    {nm_Taken qq_Taken : Str} {N_Taken fI_Taken : Addr} {bs_Taken bm_Taken : List Value} {sn_Taken : List Str} {sb_Taken : List Value} {ab_Taken : Bool} {co_Taken : Option Bool} {dd_Taken od_Taken an_Taken : Option Addr} {m0_Taken m1_Taken m2_Taken m3_Taken m5_Taken : Option Value} {oc_Taken kV_Taken dc_Taken pm_Taken cd_Taken ct_Taken : Value} {sl_Taken : Array (Option Value)}
    {nm_Unknown qq_Unknown : Str} {N_Unknown fI_Unknown : Addr} {bs_Unknown bm_Unknown : List Value} {sn_Unknown : List Str} {sb_Unknown : List Value} {ab_Unknown : Bool} {co_Unknown : Option Bool} {dd_Unknown od_Unknown an_Unknown : Option Addr} {m0_Unknown m1_Unknown m2_Unknown m3_Unknown m5_Unknown : Option Value} {oc_Unknown kV_Unknown dc_Unknown pm_Unknown cd_Unknown ct_Unknown : Value} {sl_Unknown : Array (Option Value)}
    {A_Grammar : Addr}
    (a0 : PySem.W.nsIn K mainGlobals "all_nodes" = some (some (.ref f0)))
    (l0 : K.lookup f0 = some ⟨oc0, od0, .func (PySem.W.fnOf "all_nodes" "all_nodes" (defArgs s_all_nodes) (defBody s_all_nodes) (defScope s_all_nodes) .none kV0 dc0 pm0 an0 cd0 ct0), sl0⟩) (c0 : PySem.W.codeIn K cd0 "all_nodes" = true) (k0 : PySem.W.keepIn K (.ref f0) = true)
    (a1 : PySem.W.nsIn K mainGlobals "node_at" = some (some (.ref f1)))
    (l1 : K.lookup f1 = some ⟨oc1, od1, .func (PySem.W.fnOf "node_at" "node_at" (defArgs s_node_at) (defBody s_node_at) (defScope s_node_at) .none kV1 dc1 pm1 an1 cd1 ct1), sl1⟩) (c1 : PySem.W.codeIn K cd1 "node_at" = true) (k1 : PySem.W.keepIn K (.ref f1) = true)
    (l2 : K.lookup f2 = some ⟨oc2, od2, .func (PySem.W.fnOf "check_inner" "Grammar.check_inner" (defArgs s_Grammar_check_inner) (defBody s_Grammar_check_inner) (defScope s_Grammar_check_inner) .none kV2 dc2 pm2 an2 cd2 ct2), sl2⟩) (c2 : PySem.W.codeIn K cd2 "Grammar.check_inner" = true) (k2 : PySem.W.keepIn K (.ref f2) = true)
    (l3 : K.lookup f3 = some ⟨oc3, od3, .func (PySem.W.fnOf "__init__" "Grammar.__init__" (defArgs s_Grammar_init) (defBody s_Grammar_init) (defScope s_Grammar_init) .none kV3 dc3 pm3 an3 cd3 ct3), sl3⟩) (c3 : PySem.W.codeIn K cd3 "Grammar.__init__" = true) (k3 : PySem.W.keepIn K (.ref f3) = true)
    (l4 : K.lookup f4 = some ⟨oc4, od4, .func (PySem.W.fnOf "may_stand" "Grammar.may_stand" (defArgs s_Grammar_may_stand) (defBody s_Grammar_may_stand) (defScope s_Grammar_may_stand) .none kV4 dc4 pm4 an4 cd4 ct4), sl4⟩) (c4 : PySem.W.codeIn K cd4 "Grammar.may_stand" = true) (k4 : PySem.W.keepIn K (.ref f4) = true)
    (l5 : K.lookup f5 = some ⟨oc5, od5, .func (PySem.W.fnOf "check" "Grammar.check" (defArgs s_Grammar_check) (defBody s_Grammar_check) (defScope s_Grammar_check) .none kV5 dc5 pm5 an5 cd5 ct5), sl5⟩) (c5 : PySem.W.codeIn K cd5 "Grammar.check" = true) (k5 : PySem.W.keepIn K (.ref f5) = true)
    (l6 : K.lookup f6 = some ⟨oc6, od6, .func (PySem.W.fnOf "elements_of" "Grammar.elements_of" (defArgs s_Grammar_elements_of) (defBody s_Grammar_elements_of) (defScope s_Grammar_elements_of) .none kV6 dc6 pm6 an6 cd6 ct6), sl6⟩) (c6 : PySem.W.codeIn K cd6 "Grammar.elements_of" = true) (k6 : PySem.W.keepIn K (.ref f6) = true)
    (l7 : K.lookup f7 = some ⟨oc7, od7, .func (PySem.W.fnOf "rows_of" "Grammar.rows_of" (defArgs s_Grammar_rows_of) (defBody s_Grammar_rows_of) (defScope s_Grammar_rows_of) .none kV7 dc7 pm7 an7 cd7 ct7), sl7⟩) (c7 : PySem.W.codeIn K cd7 "Grammar.rows_of" = true) (k7 : PySem.W.keepIn K (.ref f7) = true)
    (l8 : K.lookup f8 = some ⟨oc8, od8, .func (PySem.W.fnOf "every_tree" "Grammar.every_tree" (defArgs s_Grammar_every_tree) (defBody s_Grammar_every_tree) (defScope s_Grammar_every_tree) .none kV8 dc8 pm8 an8 cd8 ct8), sl8⟩) (c8 : PySem.W.codeIn K cd8 "Grammar.every_tree" = true) (k8 : PySem.W.keepIn K (.ref f8) = true)
    (a9 : PySem.W.nsIn K mainGlobals "_law_cell" = some (some (.ref f9)))
    (l9 : K.lookup f9 = some ⟨oc9, od9, .func (PySem.W.fnOf "_law_cell" "_law_cell" (defArgs s_l_cell) (defBody s_l_cell) (defScope s_l_cell) .none kV9 dc9 pm9 an9 cd9 ct9), sl9⟩) (c9 : PySem.W.codeIn K cd9 "_law_cell" = true) (k9 : PySem.W.keepIn K (.ref f9) = true)
    (a10 : PySem.W.nsIn K mainGlobals "_law_row" = some (some (.ref f10)))
    (l10 : K.lookup f10 = some ⟨oc10, od10, .func (PySem.W.fnOf "_law_row" "_law_row" (defArgs s_l_row) (defBody s_l_row) (defScope s_l_row) .none kV10 dc10 pm10 an10 cd10 ct10), sl10⟩) (c10 : PySem.W.codeIn K cd10 "_law_row" = true) (k10 : PySem.W.keepIn K (.ref f10) = true)
    (a11 : PySem.W.nsIn K mainGlobals "_law_names" = some (some (.ref f11)))
    (l11 : K.lookup f11 = some ⟨oc11, od11, .func (PySem.W.fnOf "_law_names" "_law_names" (defArgs s_l_names) (defBody s_l_names) (defScope s_l_names) .none kV11 dc11 pm11 an11 cd11 ct11), sl11⟩) (c11 : PySem.W.codeIn K cd11 "_law_names" = true) (k11 : PySem.W.keepIn K (.ref f11) = true)
    (a12 : PySem.W.nsIn K mainGlobals "_law_kinds" = some (some (.ref f12)))
    (l12 : K.lookup f12 = some ⟨oc12, od12, .func (PySem.W.fnOf "_law_kinds" "_law_kinds" (defArgs s_l_kinds) (defBody s_l_kinds) (defScope s_l_kinds) .none kV12 dc12 pm12 an12 cd12 ct12), sl12⟩) (c12 : PySem.W.codeIn K cd12 "_law_kinds" = true) (k12 : PySem.W.keepIn K (.ref f12) = true)
    (a13 : PySem.W.nsIn K mainGlobals "_law_may" = some (some (.ref f13)))
    (l13 : K.lookup f13 = some ⟨oc13, od13, .func (PySem.W.fnOf "_law_may" "_law_may" (defArgs s_l_may) (defBody s_l_may) (defScope s_l_may) .none kV13 dc13 pm13 an13 cd13 ct13), sl13⟩) (c13 : PySem.W.codeIn K cd13 "_law_may" = true) (k13 : PySem.W.keepIn K (.ref f13) = true)
    (a14 : PySem.W.nsIn K mainGlobals "_law_grammar" = some (some (.ref f14)))
    (l14 : K.lookup f14 = some ⟨oc14, od14, .func (PySem.W.fnOf "_law_grammar" "_law_grammar" (defArgs s_l_grammar) (defBody s_l_grammar) (defScope s_l_grammar) .none kV14 dc14 pm14 an14 cd14 ct14), sl14⟩) (c14 : PySem.W.codeIn K cd14 "_law_grammar" = true) (k14 : PySem.W.keepIn K (.ref f14) = true)
    (a15 : PySem.W.nsIn K mainGlobals "_law_usual" = some (some (.ref f15)))
    (l15 : K.lookup f15 = some ⟨oc15, od15, .func (PySem.W.fnOf "_law_usual" "_law_usual" (defArgs s_l_usual) (defBody s_l_usual) (defScope s_l_usual) .none kV15 dc15 pm15 an15 cd15 ct15), sl15⟩) (c15 : PySem.W.codeIn K cd15 "_law_usual" = true) (k15 : PySem.W.keepIn K (.ref f15) = true)
    (a16 : PySem.W.nsIn K mainGlobals "_law_table" = some (some (.ref f16)))
    (l16 : K.lookup f16 = some ⟨oc16, od16, .func (PySem.W.fnOf "_law_table" "_law_table" (defArgs s_l_table) (defBody s_l_table) (defScope s_l_table) .none kV16 dc16 pm16 an16 cd16 ct16), sl16⟩) (c16 : PySem.W.codeIn K cd16 "_law_table" = true) (k16 : PySem.W.keepIn K (.ref f16) = true)
    (a17 : PySem.W.nsIn K mainGlobals "_law_ways" = some (some (.ref f17)))
    (l17 : K.lookup f17 = some ⟨oc17, od17, .func (PySem.W.fnOf "_law_ways" "_law_ways" (defArgs s_l_ways) (defBody s_l_ways) (defScope s_l_ways) .none kV17 dc17 pm17 an17 cd17 ct17), sl17⟩) (c17 : PySem.W.codeIn K cd17 "_law_ways" = true) (k17 : PySem.W.keepIn K (.ref f17) = true)
    (a18 : PySem.W.nsIn K mainGlobals "_law_counts" = some (some (.ref f18)))
    (l18 : K.lookup f18 = some ⟨oc18, od18, .func (PySem.W.fnOf "_law_counts" "_law_counts" (defArgs s_l_counts) (defBody s_l_counts) (defScope s_l_counts) .none kV18 dc18 pm18 an18 cd18 ct18), sl18⟩) (c18 : PySem.W.codeIn K cd18 "_law_counts" = true) (k18 : PySem.W.keepIn K (.ref f18) = true)
    (a19 : PySem.W.nsIn K mainGlobals "_law_size" = some (some (.ref f19)))
    (l19 : K.lookup f19 = some ⟨oc19, od19, .func (PySem.W.fnOf "_law_size" "_law_size" (defArgs s_l_size) (defBody s_l_size) (defScope s_l_size) .none kV19 dc19 pm19 an19 cd19 ct19), sl19⟩) (c19 : PySem.W.codeIn K cd19 "_law_size" = true) (k19 : PySem.W.keepIn K (.ref f19) = true)
    (a20 : PySem.W.nsIn K mainGlobals "_law_all" = some (some (.ref f20)))
    (l20 : K.lookup f20 = some ⟨oc20, od20, .func (PySem.W.fnOf "_law_all" "_law_all" (defArgs s_l_all) (defBody s_l_all) (defScope s_l_all) .none kV20 dc20 pm20 an20 cd20 ct20), sl20⟩) (c20 : PySem.W.codeIn K cd20 "_law_all" = true) (k20 : PySem.W.keepIn K (.ref f20) = true)
    (a21 : PySem.W.nsIn K mainGlobals "law" = some (some (.ref f21)))
    (l21 : K.lookup f21 = some ⟨oc21, od21, .func (PySem.W.fnOf "law" "law" (defArgs s_law) (defBody s_law) (defScope s_law) .none kV21 dc21 pm21 an21 cd21 ct21), sl21⟩) (c21 : PySem.W.codeIn K cd21 "law" = true) (k21 : PySem.W.keepIn K (.ref f21) = true)
    (z_int : PySem.W.nsIn K mainGlobals "int" = some none)
    (z_isinstance : PySem.W.nsIn K mainGlobals "isinstance" = some none)
    (z_len : PySem.W.nsIn K mainGlobals "len" = some none)
    (z_list : PySem.W.nsIn K mainGlobals "list" = some none)
    (z_max : PySem.W.nsIn K mainGlobals "max" = some none)
    (z_range : PySem.W.nsIn K mainGlobals "range" = some none)
    (z_sorted : PySem.W.nsIn K mainGlobals "sorted" = some none)
    (z_str : PySem.W.nsIn K mainGlobals "str" = some none)
    (z_sum : PySem.W.nsIn K mainGlobals "sum" = some none)
    (z_tuple : PySem.W.nsIn K mainGlobals "tuple" = some none)
    (y_TEXT_ROLES : PySem.W.nsIn K mainGlobals "TEXT_ROLES" = some (some (.ref kA_TEXT_ROLES_0)))
    (kl_TEXT_ROLES_0 : K.lookup kA_TEXT_ROLES_0 = some ⟨.type "tuple", kod_TEXT_ROLES_0, .seq #[.str "block" kt_TEXT_ROLES_0_0, .str "head" kt_TEXT_ROLES_0_1, .str "span" kt_TEXT_ROLES_0_2, .str "note" kt_TEXT_ROLES_0_3, .str "figure" kt_TEXT_ROLES_0_4] kn_TEXT_ROLES_0, ksl_TEXT_ROLES_0⟩)
    (y_INNER_ROLES : PySem.W.nsIn K mainGlobals "INNER_ROLES" = some (some (.ref kA_INNER_ROLES_0)))
    (kl_INNER_ROLES_1 : K.lookup kA_INNER_ROLES_1 = some ⟨.type "tuple", kod_INNER_ROLES_1, .seq #[.str "block" kt_INNER_ROLES_1_0, .str "head" kt_INNER_ROLES_1_1] kn_INNER_ROLES_1, ksl_INNER_ROLES_1⟩)
    (kl_INNER_ROLES_2 : K.lookup kA_INNER_ROLES_2 = some ⟨.type "tuple", kod_INNER_ROLES_2, .seq #[.str "span" kt_INNER_ROLES_2_0, .str "note" kt_INNER_ROLES_2_1, .str "figure" kt_INNER_ROLES_2_2, .str "ref" kt_INNER_ROLES_2_3] kn_INNER_ROLES_2, ksl_INNER_ROLES_2⟩)
    (kl_INNER_ROLES_3 : K.lookup kA_INNER_ROLES_3 = some ⟨.type "tuple", kod_INNER_ROLES_3, .seq #[.str "span" kt_INNER_ROLES_3_0, .str "ref" kt_INNER_ROLES_3_1] kn_INNER_ROLES_3, ksl_INNER_ROLES_3⟩)
    (kl_INNER_ROLES_4 : K.lookup kA_INNER_ROLES_4 = some ⟨.type "tuple", kod_INNER_ROLES_4, .seq #[.str "span" kt_INNER_ROLES_4_0, .str "ref" kt_INNER_ROLES_4_1] kn_INNER_ROLES_4, ksl_INNER_ROLES_4⟩)
    (kl_INNER_ROLES_5 : K.lookup kA_INNER_ROLES_5 = some ⟨.type "tuple", kod_INNER_ROLES_5, .seq #[.str "span" kt_INNER_ROLES_5_0] kn_INNER_ROLES_5, ksl_INNER_ROLES_5⟩)
    (kl_INNER_ROLES_6 : K.lookup kA_INNER_ROLES_6 = some ⟨.type "tuple", kod_INNER_ROLES_6, .seq #[.str "span" kt_INNER_ROLES_6_0] kn_INNER_ROLES_6, ksl_INNER_ROLES_6⟩)
    (kl_INNER_ROLES_7 : K.lookup kA_INNER_ROLES_7 = some ⟨.type "tuple", kod_INNER_ROLES_7, .seq #[] kn_INNER_ROLES_7, ksl_INNER_ROLES_7⟩)
    (kl_INNER_ROLES_0 : K.lookup kA_INNER_ROLES_0 = some ⟨.type "dict", none, .dict #[⟨kh_INNER_ROLES_0, .str "root" kt_INNER_ROLES_0, .ref kA_INNER_ROLES_1⟩, ⟨kh_INNER_ROLES_1, .str "block" kt_INNER_ROLES_1, .ref kA_INNER_ROLES_2⟩, ⟨kh_INNER_ROLES_2, .str "head" kt_INNER_ROLES_2, .ref kA_INNER_ROLES_3⟩, ⟨kh_INNER_ROLES_3, .str "span" kt_INNER_ROLES_3, .ref kA_INNER_ROLES_4⟩, ⟨kh_INNER_ROLES_4, .str "note" kt_INNER_ROLES_4, .ref kA_INNER_ROLES_5⟩, ⟨kh_INNER_ROLES_5, .str "figure" kt_INNER_ROLES_5, .ref kA_INNER_ROLES_6⟩, ⟨kh_INNER_ROLES_6, .str "ref" kt_INNER_ROLES_6, .ref kA_INNER_ROLES_7⟩] kn_INNER_ROLES_0, #[]⟩)
    (kk_INNER_ROLES : PySem.W.KeysLit w.params [⟨kh_INNER_ROLES_0, .str "root" kt_INNER_ROLES_0, .ref kA_INNER_ROLES_1⟩, ⟨kh_INNER_ROLES_1, .str "block" kt_INNER_ROLES_1, .ref kA_INNER_ROLES_2⟩, ⟨kh_INNER_ROLES_2, .str "head" kt_INNER_ROLES_2, .ref kA_INNER_ROLES_3⟩, ⟨kh_INNER_ROLES_3, .str "span" kt_INNER_ROLES_3, .ref kA_INNER_ROLES_4⟩, ⟨kh_INNER_ROLES_4, .str "note" kt_INNER_ROLES_4, .ref kA_INNER_ROLES_5⟩, ⟨kh_INNER_ROLES_5, .str "figure" kt_INNER_ROLES_5, .ref kA_INNER_ROLES_6⟩, ⟨kh_INNER_ROLES_6, .str "ref" kt_INNER_ROLES_6, .ref kA_INNER_ROLES_7⟩])
    (km_INNER_ROLES : (kA_INNER_ROLES_0 == sysModules) = false)
    (x_Misfit : PySem.W.nsIn K mainGlobals "Misfit" = some (some (.ref A_Misfit)))
    (x_NoPlace : PySem.W.nsIn K mainGlobals "NoPlace" = some (some (.ref A_NoPlace)))
    (x_Strange : PySem.W.nsIn K mainGlobals "Strange" = some (some (.ref A_Strange)))
    (x_Taken : PySem.W.nsIn K mainGlobals "Taken" = some (some (.ref A_Taken)))
    (x_Unknown : PySem.W.nsIn K mainGlobals "Unknown" = some (some (.ref A_Unknown)))
    (X1_Misfit : K.lookup A_Misfit = some (excClassObj nm_Misfit qq_Misfit A_Misfit N_Misfit bs_Misfit bm_Misfit true sn_Misfit sb_Misfit ab_Misfit co_Misfit dd_Misfit m0_Misfit m1_Misfit m2_Misfit m3_Misfit m5_Misfit "ValueError.__new__")) (X2_Misfit : PySem.HandSPX.refsVE bm_Misfit = true)
    (X3_Misfit : PySem.W.findIn K (.ref A_Misfit) "__setattr__" = some (some (.builtin "object.__setattr__"))) (X4_Misfit : PySem.W.subIn K (.ref A_Misfit) (.type "BaseException") = some true) (X5_Misfit : PySem.W.typeIn K (.ref A_Misfit) = some (.type "type")) (X6_Misfit : PySem.W.keepIn K (.ref A_Misfit) = true)
    (X7_Misfit : PySem.W.findIn K (.ref A_Misfit) "__init__" = some (some (.ref fI_Misfit))) (X8_Misfit : PySem.W.typeIn K (.ref fI_Misfit) = some (.type "function")) (X9_Misfit : K.lookup fI_Misfit = some ⟨oc_Misfit, od_Misfit, .func (PySem.W.fnOf "__init__" "Misfit.__init__" (defArgs s_Misfit) (defBody s_Misfit) (defScope s_Misfit) .none kV_Misfit dc_Misfit pm_Misfit an_Misfit cd_Misfit ct_Misfit), sl_Misfit⟩) (Xa_Misfit : PySem.W.codeIn K cd_Misfit "Misfit.__init__" = true) (Xb_Misfit : PySem.W.keepIn K (.ref fI_Misfit) = true)
    (Y0_Misfit : PySem.W.findIn K (.ref A_Misfit) "kind" = some none)
    (Xc_Misfit : PySem.W.findIn K (.ref A_Misfit) "__getattribute__" = some (some (.builtin "BaseException.__getattribute__"))) (Xd_Misfit : PySem.W.findIn K (.ref A_Misfit) "__getattr__" = some none) (Xe_Misfit : PySem.W.hasDictIn K A_Misfit = true)
    (Xf_Misfit : PySem.W.findIn K (.ref A_Misfit) "__class__" = some (some (.builtin "object.__class__"))) (Xg_Misfit : PySem.W.specialIn K (.builtin "object.__class__") "__get__" = some (some (.builtin "getset_descriptor.__get__"))) (Xh_Misfit : PySem.W.takesIn K (.builtin "object.__class__") = some true) (Xi_Misfit : PySem.W.mroIn K A_Misfit (.type "object") = some true)
    (X1_NoPlace : K.lookup A_NoPlace = some (excClassObj nm_NoPlace qq_NoPlace A_NoPlace N_NoPlace bs_NoPlace bm_NoPlace true sn_NoPlace sb_NoPlace ab_NoPlace co_NoPlace dd_NoPlace m0_NoPlace m1_NoPlace m2_NoPlace m3_NoPlace m5_NoPlace "ValueError.__new__")) (X2_NoPlace : PySem.HandSPX.refsVE bm_NoPlace = true)
    (X3_NoPlace : PySem.W.findIn K (.ref A_NoPlace) "__setattr__" = some (some (.builtin "object.__setattr__"))) (X4_NoPlace : PySem.W.subIn K (.ref A_NoPlace) (.type "BaseException") = some true) (X5_NoPlace : PySem.W.typeIn K (.ref A_NoPlace) = some (.type "type")) (X6_NoPlace : PySem.W.keepIn K (.ref A_NoPlace) = true)
    (X7_NoPlace : PySem.W.findIn K (.ref A_NoPlace) "__init__" = some (some (.ref fI_NoPlace))) (X8_NoPlace : PySem.W.typeIn K (.ref fI_NoPlace) = some (.type "function")) (X9_NoPlace : K.lookup fI_NoPlace = some ⟨oc_NoPlace, od_NoPlace, .func (PySem.W.fnOf "__init__" "NoPlace.__init__" (defArgs s_NoPlace) (defBody s_NoPlace) (defScope s_NoPlace) .none kV_NoPlace dc_NoPlace pm_NoPlace an_NoPlace cd_NoPlace ct_NoPlace), sl_NoPlace⟩) (Xa_NoPlace : PySem.W.codeIn K cd_NoPlace "NoPlace.__init__" = true) (Xb_NoPlace : PySem.W.keepIn K (.ref fI_NoPlace) = true)
    (Y0_NoPlace : PySem.W.findIn K (.ref A_NoPlace) "place" = some none)
    (Xc_NoPlace : PySem.W.findIn K (.ref A_NoPlace) "__getattribute__" = some (some (.builtin "BaseException.__getattribute__"))) (Xd_NoPlace : PySem.W.findIn K (.ref A_NoPlace) "__getattr__" = some none) (Xe_NoPlace : PySem.W.hasDictIn K A_NoPlace = true)
    (Xf_NoPlace : PySem.W.findIn K (.ref A_NoPlace) "__class__" = some (some (.builtin "object.__class__"))) (Xg_NoPlace : PySem.W.specialIn K (.builtin "object.__class__") "__get__" = some (some (.builtin "getset_descriptor.__get__"))) (Xh_NoPlace : PySem.W.takesIn K (.builtin "object.__class__") = some true) (Xi_NoPlace : PySem.W.mroIn K A_NoPlace (.type "object") = some true)
    (X1_Strange : K.lookup A_Strange = some (excClassObj nm_Strange qq_Strange A_Strange N_Strange bs_Strange bm_Strange true sn_Strange sb_Strange ab_Strange co_Strange dd_Strange m0_Strange m1_Strange m2_Strange m3_Strange m5_Strange "ValueError.__new__")) (X2_Strange : PySem.HandSPX.refsVE bm_Strange = true)
    (X3_Strange : PySem.W.findIn K (.ref A_Strange) "__setattr__" = some (some (.builtin "object.__setattr__"))) (X4_Strange : PySem.W.subIn K (.ref A_Strange) (.type "BaseException") = some true) (X5_Strange : PySem.W.typeIn K (.ref A_Strange) = some (.type "type")) (X6_Strange : PySem.W.keepIn K (.ref A_Strange) = true)
    (X7_Strange : PySem.W.findIn K (.ref A_Strange) "__init__" = some (some (.ref fI_Strange))) (X8_Strange : PySem.W.typeIn K (.ref fI_Strange) = some (.type "function")) (X9_Strange : K.lookup fI_Strange = some ⟨oc_Strange, od_Strange, .func (PySem.W.fnOf "__init__" "Strange.__init__" (defArgs s_Strange) (defBody s_Strange) (defScope s_Strange) .none kV_Strange dc_Strange pm_Strange an_Strange cd_Strange ct_Strange), sl_Strange⟩) (Xa_Strange : PySem.W.codeIn K cd_Strange "Strange.__init__" = true) (Xb_Strange : PySem.W.keepIn K (.ref fI_Strange) = true)
    (Y0_Strange : PySem.W.findIn K (.ref A_Strange) "place" = some none)
    (Xc_Strange : PySem.W.findIn K (.ref A_Strange) "__getattribute__" = some (some (.builtin "BaseException.__getattribute__"))) (Xd_Strange : PySem.W.findIn K (.ref A_Strange) "__getattr__" = some none) (Xe_Strange : PySem.W.hasDictIn K A_Strange = true)
    (Xf_Strange : PySem.W.findIn K (.ref A_Strange) "__class__" = some (some (.builtin "object.__class__"))) (Xg_Strange : PySem.W.specialIn K (.builtin "object.__class__") "__get__" = some (some (.builtin "getset_descriptor.__get__"))) (Xh_Strange : PySem.W.takesIn K (.builtin "object.__class__") = some true) (Xi_Strange : PySem.W.mroIn K A_Strange (.type "object") = some true)
    (X1_Taken : K.lookup A_Taken = some (excClassObj nm_Taken qq_Taken A_Taken N_Taken bs_Taken bm_Taken true sn_Taken sb_Taken ab_Taken co_Taken dd_Taken m0_Taken m1_Taken m2_Taken m3_Taken m5_Taken "ValueError.__new__")) (X2_Taken : PySem.HandSPX.refsVE bm_Taken = true)
    (X3_Taken : PySem.W.findIn K (.ref A_Taken) "__setattr__" = some (some (.builtin "object.__setattr__"))) (X4_Taken : PySem.W.subIn K (.ref A_Taken) (.type "BaseException") = some true) (X5_Taken : PySem.W.typeIn K (.ref A_Taken) = some (.type "type")) (X6_Taken : PySem.W.keepIn K (.ref A_Taken) = true)
    (X7_Taken : PySem.W.findIn K (.ref A_Taken) "__init__" = some (some (.ref fI_Taken))) (X8_Taken : PySem.W.typeIn K (.ref fI_Taken) = some (.type "function")) (X9_Taken : K.lookup fI_Taken = some ⟨oc_Taken, od_Taken, .func (PySem.W.fnOf "__init__" "Taken.__init__" (defArgs s_Taken) (defBody s_Taken) (defScope s_Taken) .none kV_Taken dc_Taken pm_Taken an_Taken cd_Taken ct_Taken), sl_Taken⟩) (Xa_Taken : PySem.W.codeIn K cd_Taken "Taken.__init__" = true) (Xb_Taken : PySem.W.keepIn K (.ref fI_Taken) = true)
    (Y0_Taken : PySem.W.findIn K (.ref A_Taken) "kind" = some none)
    (Xc_Taken : PySem.W.findIn K (.ref A_Taken) "__getattribute__" = some (some (.builtin "BaseException.__getattribute__"))) (Xd_Taken : PySem.W.findIn K (.ref A_Taken) "__getattr__" = some none) (Xe_Taken : PySem.W.hasDictIn K A_Taken = true)
    (Xf_Taken : PySem.W.findIn K (.ref A_Taken) "__class__" = some (some (.builtin "object.__class__"))) (Xg_Taken : PySem.W.specialIn K (.builtin "object.__class__") "__get__" = some (some (.builtin "getset_descriptor.__get__"))) (Xh_Taken : PySem.W.takesIn K (.builtin "object.__class__") = some true) (Xi_Taken : PySem.W.mroIn K A_Taken (.type "object") = some true)
    (X1_Unknown : K.lookup A_Unknown = some (excClassObj nm_Unknown qq_Unknown A_Unknown N_Unknown bs_Unknown bm_Unknown true sn_Unknown sb_Unknown ab_Unknown co_Unknown dd_Unknown m0_Unknown m1_Unknown m2_Unknown m3_Unknown m5_Unknown "ValueError.__new__")) (X2_Unknown : PySem.HandSPX.refsVE bm_Unknown = true)
    (X3_Unknown : PySem.W.findIn K (.ref A_Unknown) "__setattr__" = some (some (.builtin "object.__setattr__"))) (X4_Unknown : PySem.W.subIn K (.ref A_Unknown) (.type "BaseException") = some true) (X5_Unknown : PySem.W.typeIn K (.ref A_Unknown) = some (.type "type")) (X6_Unknown : PySem.W.keepIn K (.ref A_Unknown) = true)
    (X7_Unknown : PySem.W.findIn K (.ref A_Unknown) "__init__" = some (some (.ref fI_Unknown))) (X8_Unknown : PySem.W.typeIn K (.ref fI_Unknown) = some (.type "function")) (X9_Unknown : K.lookup fI_Unknown = some ⟨oc_Unknown, od_Unknown, .func (PySem.W.fnOf "__init__" "Unknown.__init__" (defArgs s_Unknown) (defBody s_Unknown) (defScope s_Unknown) .none kV_Unknown dc_Unknown pm_Unknown an_Unknown cd_Unknown ct_Unknown), sl_Unknown⟩) (Xa_Unknown : PySem.W.codeIn K cd_Unknown "Unknown.__init__" = true) (Xb_Unknown : PySem.W.keepIn K (.ref fI_Unknown) = true)
    (Y0_Unknown : PySem.W.findIn K (.ref A_Unknown) "kind" = some none)
    (Xc_Unknown : PySem.W.findIn K (.ref A_Unknown) "__getattribute__" = some (some (.builtin "BaseException.__getattribute__"))) (Xd_Unknown : PySem.W.findIn K (.ref A_Unknown) "__getattr__" = some none) (Xe_Unknown : PySem.W.hasDictIn K A_Unknown = true)
    (Xf_Unknown : PySem.W.findIn K (.ref A_Unknown) "__class__" = some (some (.builtin "object.__class__"))) (Xg_Unknown : PySem.W.specialIn K (.builtin "object.__class__") "__get__" = some (some (.builtin "getset_descriptor.__get__"))) (Xh_Unknown : PySem.W.takesIn K (.builtin "object.__class__") = some true) (Xi_Unknown : PySem.W.mroIn K A_Unknown (.type "object") = some true)
    (x_Grammar : PySem.W.nsIn K mainGlobals "Grammar" = some (some (.ref A_Grammar))) (P1_Grammar : PySem.W.plainGet K A_Grammar Str.empty = true) (P2_Grammar : PySem.W.hasDictIn K A_Grammar = true) (P3_Grammar : PySem.W.plainOver K A_Grammar = true) (P4_Grammar : PySem.W.findIn K (.ref A_Grammar) "__setattr__" = some (some (.builtin "object.__setattr__")))
    (M1_Grammar : PySem.W.makesIn K A_Grammar = true) (M2_Grammar : PySem.W.findIn K (.ref A_Grammar) "__init__" = some (some (.ref f3))) (M3_Grammar : PySem.W.isFn K (.ref f3) = true) (M4_Grammar : PySem.W.keepIn K (.ref A_Grammar) = true)
    (N_Grammar_entries : PySem.W.findIn K (.ref A_Grammar) "entries" = some none)
    (N_Grammar_order : PySem.W.findIn K (.ref A_Grammar) "order" = some none)
    (N_Grammar_root : PySem.W.findIn K (.ref A_Grammar) "root" = some none)
    (m1_Grammar_check : PySem.W.findIn K (.ref A_Grammar) "check" = some (some (.ref f5))) (m2_Grammar_check : PySem.W.isFn K (.ref f5) = true)
    (m1_Grammar_check_inner : PySem.W.findIn K (.ref A_Grammar) "check_inner" = some (some (.ref f2))) (m2_Grammar_check_inner : PySem.W.isFn K (.ref f2) = true)
    (m1_Grammar_elements_of : PySem.W.findIn K (.ref A_Grammar) "elements_of" = some (some (.ref f6))) (m2_Grammar_elements_of : PySem.W.isFn K (.ref f6) = true)
    (m1_Grammar_every_tree : PySem.W.findIn K (.ref A_Grammar) "every_tree" = some (some (.ref f8))) (m2_Grammar_every_tree : PySem.W.isFn K (.ref f8) = true)
    (m1_Grammar_may_stand : PySem.W.findIn K (.ref A_Grammar) "may_stand" = some (some (.ref f4))) (m2_Grammar_may_stand : PySem.W.isFn K (.ref f4) = true)
    (m1_Grammar_rows_of : PySem.W.findIn K (.ref A_Grammar) "rows_of" = some (some (.ref f7))) (m2_Grammar_rows_of : PySem.W.isFn K (.ref f7) = true) : ∃ T : Txt w K mg, T.f_law = f21 ∧ T.fd_law = PySem.W.fnOf "law" "law" (defArgs s_law) (defBody s_law) (defScope s_law) .none kV21 dc21 pm21 an21 cd21 ct21 := by
  have F0 := fun_mk (st := s_all_nodes) l0 c0 k0
  have b0 := F0.binds (ps := ["tree"]) fun _ _ _ _ _ _ us hl => match us, hl with | [_], _ => rfl
  have F1 := fun_mk (st := s_node_at) l1 c1 k1
  have b1 := F1.binds (ps := ["tree", "place"]) fun _ _ _ _ _ _ us hl => match us, hl with | [_, _], _ => rfl
  have F2 := fun_mk (st := s_Grammar_check_inner) l2 c2 k2
  have b2 := F2.binds (ps := ["self", "kind"]) fun _ _ _ _ _ _ us hl => match us, hl with | [_, _], _ => rfl
  have F3 := fun_mk (st := s_Grammar_init) l3 c3 k3
  have b3 := F3.binds (ps := ["self", "root", "rows"]) fun _ _ _ _ _ _ us hl => match us, hl with | [_, _, _], _ => rfl
  have F4 := fun_mk (st := s_Grammar_may_stand) l4 c4 k4
  have b4 := F4.binds (ps := ["self", "tree", "place", "node"]) fun _ _ _ _ _ _ us hl => match us, hl with | [_, _, _, _], _ => rfl
  have F5 := fun_mk (st := s_Grammar_check) l5 c5 k5
  have b5 := F5.binds (ps := ["self", "tree"]) fun _ _ _ _ _ _ us hl => match us, hl with | [_, _], _ => rfl
  have F6 := fun_mk (st := s_Grammar_elements_of) l6 c6 k6
  have b6 := F6.binds (ps := ["self", "kind", "many", "marks"]) fun _ _ _ _ _ _ us hl => match us, hl with | [_, _, _, _], _ => rfl
  have F7 := fun_mk (st := s_Grammar_rows_of) l7 c7 k7
  have b7 := F7.binds (ps := ["self", "kinds", "many", "marks"]) fun _ _ _ _ _ _ us hl => match us, hl with | [_, _, _, _], _ => rfl
  have F8 := fun_mk (st := s_Grammar_every_tree) l8 c8 k8
  have b8 := F8.binds (ps := ["self", "many", "marks"]) fun _ _ _ _ _ _ us hl => match us, hl with | [_, _, _], _ => rfl
  have F9 := fun_mk (st := s_l_cell) l9 c9 k9
  have b9 := F9.binds (ps := ["_law_script", "_law_k"]) fun _ _ _ _ _ _ us hl => match us, hl with | [_, _], _ => rfl
  have F10 := fun_mk (st := s_l_row) l10 c10 k10
  have b10 := F10.binds (ps := ["_law_cell_here", "_law_limits"]) fun _ _ _ _ _ _ us hl => match us, hl with | [_, _], _ => rfl
  have F11 := fun_mk (st := s_l_names) l11 c11 k11
  have b11 := F11.binds (ps := ["_law_cell_here", "_law_many"]) fun _ _ _ _ _ _ us hl => match us, hl with | [_, _], _ => rfl
  have F12 := fun_mk (st := s_l_kinds) l12 c12 k12
  have b12 := F12.binds (ps := ["_law_cell_here", "_law_many"]) fun _ _ _ _ _ _ us hl => match us, hl with | [_, _], _ => rfl
  have F13 := fun_mk (st := s_l_may) l13 c13 k13
  have b13 := F13.binds (ps := ["_law_outer", "_law_inner"]) fun _ _ _ _ _ _ us hl => match us, hl with | [_, _], _ => rfl
  have F14 := fun_mk (st := s_l_grammar) l14 c14 k14
  have b14 := F14.binds (ps := ["_law_cell_here", "_law_kinds_here"]) fun _ _ _ _ _ _ us hl => match us, hl with | [_, _], _ => rfl
  have F15 := fun_mk (st := s_l_usual) l15 c15 k15
  have b15 := F15.binds (ps := []) fun _ _ _ _ _ _ us hl => match us, hl with | [], _ => rfl
  have F16 := fun_mk (st := s_l_table) l16 c16 k16
  have b16 := F16.binds (ps := ["_law_rows"]) fun _ _ _ _ _ _ us hl => match us, hl with | [_], _ => rfl
  have F17 := fun_mk (st := s_l_ways) l17 c17 k17
  have b17 := F17.binds (ps := ["_law_kinds_here", "_law_many", "_law_counts_here"]) fun _ _ _ _ _ _ us hl => match us, hl with | [_, _, _], _ => rfl
  have F18 := fun_mk (st := s_l_counts) l18 c18 k18
  have b18 := F18.binds (ps := ["_law_rows", "_law_marks"]) fun _ _ _ _ _ _ us hl => match us, hl with | [_, _], _ => rfl
  have F19 := fun_mk (st := s_l_size) l19 c19 k19
  have b19 := F19.binds (ps := ["_law_node", "_law_kinds_here", "_law_table_here", "_law_marks"]) fun _ _ _ _ _ _ us hl => match us, hl with | [_, _, _, _], _ => rfl
  have F20 := fun_mk (st := s_l_all) l20 c20 k20
  have b20 := F20.binds (ps := ["_law_grammar_here", "_law_top", "_law_rows", "_law_size_here", "_law_marks"]) fun _ _ _ _ _ _ us hl => match us, hl with | [_, _, _, _, _], _ => rfl
  have F21 := fun_mk (st := s_law) l21 c21 k21
  have b21 := F21.binds (ps := ["_law_script"]) fun _ _ _ _ _ _ us hl => match us, hl with | [_], _ => rfl
  have FI_Misfit := fun_mk (st := s_Misfit) X9_Misfit Xa_Misfit Xb_Misfit
  have bI_Misfit := FI_Misfit.binds (ps := ["self", "kind"]) fun _ _ _ _ _ _ us hl => match us, hl with | [_, _], _ => rfl
  have FI_NoPlace := fun_mk (st := s_NoPlace) X9_NoPlace Xa_NoPlace Xb_NoPlace
  have bI_NoPlace := FI_NoPlace.binds (ps := ["self", "place"]) fun _ _ _ _ _ _ us hl => match us, hl with | [_, _], _ => rfl
  have FI_Strange := fun_mk (st := s_Strange) X9_Strange Xa_Strange Xb_Strange
  have bI_Strange := FI_Strange.binds (ps := ["self", "place"]) fun _ _ _ _ _ _ us hl => match us, hl with | [_, _], _ => rfl
  have FI_Taken := fun_mk (st := s_Taken) X9_Taken Xa_Taken Xb_Taken
  have bI_Taken := FI_Taken.binds (ps := ["self", "kind"]) fun _ _ _ _ _ _ us hl => match us, hl with | [_, _], _ => rfl
  have FI_Unknown := fun_mk (st := s_Unknown) X9_Unknown Xa_Unknown Xb_Unknown
  have bI_Unknown := FI_Unknown.binds (ps := ["self", "kind"]) fun _ _ _ _ _ _ us hl => match us, hl with | [_, _], _ => rfl
  exact ⟨⟨f0, _, F0, PySem.W.mg_of X G a0, b0, f1, _, F1, PySem.W.mg_of X G a1, b1, f2, _, F2, b2, f3, _, F3, b3, f4, _, F4, b4, f5, _, F5, b5, f6, _, F6, b6, f7, _, F7, b7, f8, _, F8, b8, f9, _, F9, PySem.W.mg_of X G a9, b9, f10, _, F10, PySem.W.mg_of X G a10, b10, f11, _, F11, PySem.W.mg_of X G a11, b11, f12, _, F12, PySem.W.mg_of X G a12, b12, f13, _, F13, PySem.W.mg_of X G a13, b13, f14, _, F14, PySem.W.mg_of X G a14, b14, f15, _, F15, PySem.W.mg_of X G a15, b15, f16, _, F16, PySem.W.mg_of X G a16, b16, f17, _, F17, PySem.W.mg_of X G a17, b17, f18, _, F18, PySem.W.mg_of X G a18, b18, f19, _, F19, PySem.W.mg_of X G a19, b19, f20, _, F20, PySem.W.mg_of X G a20, b20, f21, _, F21, PySem.W.mg_of X G a21, b21, PySem.W.mg_none_of X G z_int, PySem.W.mg_none_of X G z_isinstance, PySem.W.mg_none_of X G z_len, PySem.W.mg_none_of X G z_list, PySem.W.mg_none_of X G z_max, PySem.W.mg_none_of X G z_range, PySem.W.mg_none_of X G z_sorted, PySem.W.mg_none_of X G z_str, PySem.W.mg_none_of X G z_sum, PySem.W.mg_none_of X G z_tuple, kA_TEXT_ROLES_0, PySem.W.mg_of X G y_TEXT_ROLES, (fun S => (kt_mk (us := [.str "block" kt_TEXT_ROLES_0_0, .str "head" kt_TEXT_ROLES_0_1, .str "span" kt_TEXT_ROLES_0_2, .str "note" kt_TEXT_ROLES_0_3, .str "figure" kt_TEXT_ROLES_0_4]) (xs := [.str "block", .str "head", .str "span", .str "note", .str "figure"]) kl_TEXT_ROLES_0 (by simp) (.cons ⟨_, rfl⟩ (.cons ⟨_, rfl⟩ (.cons ⟨_, rfl⟩ (.cons ⟨_, rfl⟩ (.cons ⟨_, rfl⟩ .nil))))) (.cons (.str _) (.cons (.str _) (.cons (.str _) (.cons (.str _) (.cons (.str _) .nil))))))), kA_INNER_ROLES_0, PySem.W.mg_of X G y_INNER_ROLES, ModD.mk (es := [⟨kh_INNER_ROLES_0, .str "root" kt_INNER_ROLES_0, .ref kA_INNER_ROLES_1⟩, ⟨kh_INNER_ROLES_1, .str "block" kt_INNER_ROLES_1, .ref kA_INNER_ROLES_2⟩, ⟨kh_INNER_ROLES_2, .str "head" kt_INNER_ROLES_2, .ref kA_INNER_ROLES_3⟩, ⟨kh_INNER_ROLES_3, .str "span" kt_INNER_ROLES_3, .ref kA_INNER_ROLES_4⟩, ⟨kh_INNER_ROLES_4, .str "note" kt_INNER_ROLES_4, .ref kA_INNER_ROLES_5⟩, ⟨kh_INNER_ROLES_5, .str "figure" kt_INNER_ROLES_5, .ref kA_INNER_ROLES_6⟩, ⟨kh_INNER_ROLES_6, .str "ref" kt_INNER_ROLES_6, .ref kA_INNER_ROLES_7⟩]) kl_INNER_ROLES_0 kk_INNER_ROLES km_INNER_ROLES (.cons (v := .ref kA_INNER_ROLES_1) (by decide +kernel) rfl (fun cm S => (kt_mk (us := [.str "block" kt_INNER_ROLES_1_0, .str "head" kt_INNER_ROLES_1_1]) (xs := [.str "block", .str "head"]) kl_INNER_ROLES_1 (by simp) (.cons ⟨_, rfl⟩ (.cons ⟨_, rfl⟩ .nil)) (.cons (.str _) (.cons (.str _) .nil)))) (.cons (v := .ref kA_INNER_ROLES_2) (by decide +kernel) rfl (fun cm S => (kt_mk (us := [.str "span" kt_INNER_ROLES_2_0, .str "note" kt_INNER_ROLES_2_1, .str "figure" kt_INNER_ROLES_2_2, .str "ref" kt_INNER_ROLES_2_3]) (xs := [.str "span", .str "note", .str "figure", .str "ref"]) kl_INNER_ROLES_2 (by simp) (.cons ⟨_, rfl⟩ (.cons ⟨_, rfl⟩ (.cons ⟨_, rfl⟩ (.cons ⟨_, rfl⟩ .nil)))) (.cons (.str _) (.cons (.str _) (.cons (.str _) (.cons (.str _) .nil)))))) (.cons (v := .ref kA_INNER_ROLES_3) (by decide +kernel) rfl (fun cm S => (kt_mk (us := [.str "span" kt_INNER_ROLES_3_0, .str "ref" kt_INNER_ROLES_3_1]) (xs := [.str "span", .str "ref"]) kl_INNER_ROLES_3 (by simp) (.cons ⟨_, rfl⟩ (.cons ⟨_, rfl⟩ .nil)) (.cons (.str _) (.cons (.str _) .nil)))) (.cons (v := .ref kA_INNER_ROLES_4) (by decide +kernel) rfl (fun cm S => (kt_mk (us := [.str "span" kt_INNER_ROLES_4_0, .str "ref" kt_INNER_ROLES_4_1]) (xs := [.str "span", .str "ref"]) kl_INNER_ROLES_4 (by simp) (.cons ⟨_, rfl⟩ (.cons ⟨_, rfl⟩ .nil)) (.cons (.str _) (.cons (.str _) .nil)))) (.cons (v := .ref kA_INNER_ROLES_5) (by decide +kernel) rfl (fun cm S => (kt_mk (us := [.str "span" kt_INNER_ROLES_5_0]) (xs := [.str "span"]) kl_INNER_ROLES_5 (by simp) (.cons ⟨_, rfl⟩ .nil) (.cons (.str _) .nil))) (.cons (v := .ref kA_INNER_ROLES_6) (by decide +kernel) rfl (fun cm S => (kt_mk (us := [.str "span" kt_INNER_ROLES_6_0]) (xs := [.str "span"]) kl_INNER_ROLES_6 (by simp) (.cons ⟨_, rfl⟩ .nil) (.cons (.str _) .nil))) (.cons (v := .ref kA_INNER_ROLES_7) (by decide +kernel) rfl (fun cm S => (kt_mk (us := []) (xs := []) kl_INNER_ROLES_7 (by simp) .nil .nil)) .nil))))))), A_Misfit, PySem.W.mg_of X G x_Misfit, A_NoPlace, PySem.W.mg_of X G x_NoPlace, A_Strange, PySem.W.mg_of X G x_Strange, A_Taken, PySem.W.mg_of X G x_Taken, A_Unknown, PySem.W.mg_of X G x_Unknown, ⟨⟨_, _, _, _, _, _, _, _, _, _, _, _, _, _, _, X1_Misfit, X2_Misfit⟩, X3_Misfit, X4_Misfit, X5_Misfit, X6_Misfit⟩, fI_Misfit, _, X7_Misfit, X8_Misfit, FI_Misfit, bI_Misfit, Y0_Misfit, ⟨Xc_Misfit, Xd_Misfit, X4_Misfit, Xe_Misfit⟩, ⟨Xc_Misfit, Xd_Misfit, X4_Misfit, Xe_Misfit, Xf_Misfit, Xg_Misfit, Xh_Misfit, Xi_Misfit⟩, ⟨⟨_, _, _, _, _, _, _, _, _, _, _, _, _, _, _, X1_NoPlace, X2_NoPlace⟩, X3_NoPlace, X4_NoPlace, X5_NoPlace, X6_NoPlace⟩, fI_NoPlace, _, X7_NoPlace, X8_NoPlace, FI_NoPlace, bI_NoPlace, Y0_NoPlace, ⟨Xc_NoPlace, Xd_NoPlace, X4_NoPlace, Xe_NoPlace⟩, ⟨Xc_NoPlace, Xd_NoPlace, X4_NoPlace, Xe_NoPlace, Xf_NoPlace, Xg_NoPlace, Xh_NoPlace, Xi_NoPlace⟩, ⟨⟨_, _, _, _, _, _, _, _, _, _, _, _, _, _, _, X1_Strange, X2_Strange⟩, X3_Strange, X4_Strange, X5_Strange, X6_Strange⟩, fI_Strange, _, X7_Strange, X8_Strange, FI_Strange, bI_Strange, Y0_Strange, ⟨Xc_Strange, Xd_Strange, X4_Strange, Xe_Strange⟩, ⟨Xc_Strange, Xd_Strange, X4_Strange, Xe_Strange, Xf_Strange, Xg_Strange, Xh_Strange, Xi_Strange⟩, ⟨⟨_, _, _, _, _, _, _, _, _, _, _, _, _, _, _, X1_Taken, X2_Taken⟩, X3_Taken, X4_Taken, X5_Taken, X6_Taken⟩, fI_Taken, _, X7_Taken, X8_Taken, FI_Taken, bI_Taken, Y0_Taken, ⟨Xc_Taken, Xd_Taken, X4_Taken, Xe_Taken⟩, ⟨Xc_Taken, Xd_Taken, X4_Taken, Xe_Taken, Xf_Taken, Xg_Taken, Xh_Taken, Xi_Taken⟩, ⟨⟨_, _, _, _, _, _, _, _, _, _, _, _, _, _, _, X1_Unknown, X2_Unknown⟩, X3_Unknown, X4_Unknown, X5_Unknown, X6_Unknown⟩, fI_Unknown, _, X7_Unknown, X8_Unknown, FI_Unknown, bI_Unknown, Y0_Unknown, ⟨Xc_Unknown, Xd_Unknown, X4_Unknown, Xe_Unknown⟩, ⟨Xc_Unknown, Xd_Unknown, X4_Unknown, Xe_Unknown, Xf_Unknown, Xg_Unknown, Xh_Unknown, Xi_Unknown⟩, A_Grammar, PySem.W.mg_of X G x_Grammar, ⟨P1_Grammar, P2_Grammar, P3_Grammar, P4_Grammar⟩, ⟨M1_Grammar, M2_Grammar, M3_Grammar, M4_Grammar⟩, N_Grammar_entries, N_Grammar_order, N_Grammar_root, ⟨m1_Grammar_check, m2_Grammar_check, k5⟩, ⟨m1_Grammar_check_inner, m2_Grammar_check_inner, k2⟩, ⟨m1_Grammar_elements_of, m2_Grammar_elements_of, k6⟩, ⟨m1_Grammar_every_tree, m2_Grammar_every_tree, k8⟩, ⟨m1_Grammar_may_stand, m2_Grammar_may_stand, k4⟩, ⟨m1_Grammar_rows_of, m2_Grammar_rows_of, k7⟩⟩, rfl, rfl⟩
def spLaw (K : PySem.W.Frag) : Sp := fun vs H Q _ => ∃ (a : Addr) (ns : List Int), vs = [.ref a] ∧ SqL K H a (ns.map V.int) ∧ ns.length ≤ 63 ∧ ∀ H', Q (.bl true) H'
theorem ok_end {P : Program} {w : World} {K : PySem.W.Frag} {mg : Str → Option Value} {base : Heap} (T : Txt w K mg) : FnOk P w K mg base (L2N.CX P w) 28 T.f_law T.fd_law ["_law_script"] (spLaw K) := FnOk.imp (ok_law T) fun vs H Q E ⟨a, ns, e, hS, hl, k⟩ => by
  subst e
  exact law_sp (law_true ns hl) hS k
theorem all_mk {l : PySem.W.OpenLaw} {w : World} {K : PySem.W.Frag} {h : Heap} {mg : Str → Option Value} {fa : Addr} (X : K.In h) (G : h.Ns mainGlobals mg) (hfa : mg "law" = some (.ref fa))
    {f0 : Addr} {oc0 kV0 dc0 pm0 cd0 ct0 : Value} {od0 an0 : Option Addr} {sl0 : Array (Option Value)}
    {f1 : Addr} {oc1 kV1 dc1 pm1 cd1 ct1 : Value} {od1 an1 : Option Addr} {sl1 : Array (Option Value)}
    {f2 : Addr} {oc2 kV2 dc2 pm2 cd2 ct2 : Value} {od2 an2 : Option Addr} {sl2 : Array (Option Value)}
    {f3 : Addr} {oc3 kV3 dc3 pm3 cd3 ct3 : Value} {od3 an3 : Option Addr} {sl3 : Array (Option Value)}
    {f4 : Addr} {oc4 kV4 dc4 pm4 cd4 ct4 : Value} {od4 an4 : Option Addr} {sl4 : Array (Option Value)}
    {f5 : Addr} {oc5 kV5 dc5 pm5 cd5 ct5 : Value} {od5 an5 : Option Addr} {sl5 : Array (Option Value)}
    {f6 : Addr} {oc6 kV6 dc6 pm6 cd6 ct6 : Value} {od6 an6 : Option Addr} {sl6 : Array (Option Value)}
    {f7 : Addr} {oc7 kV7 dc7 pm7 cd7 ct7 : Value} {od7 an7 : Option Addr} {sl7 : Array (Option Value)}
    {f8 : Addr} {oc8 kV8 dc8 pm8 cd8 ct8 : Value} {od8 an8 : Option Addr} {sl8 : Array (Option Value)}
    {f9 : Addr} {oc9 kV9 dc9 pm9 cd9 ct9 : Value} {od9 an9 : Option Addr} {sl9 : Array (Option Value)}
    {f10 : Addr} {oc10 kV10 dc10 pm10 cd10 ct10 : Value} {od10 an10 : Option Addr} {sl10 : Array (Option Value)}
    {f11 : Addr} {oc11 kV11 dc11 pm11 cd11 ct11 : Value} {od11 an11 : Option Addr} {sl11 : Array (Option Value)}
    {f12 : Addr} {oc12 kV12 dc12 pm12 cd12 ct12 : Value} {od12 an12 : Option Addr} {sl12 : Array (Option Value)}
    {f13 : Addr} {oc13 kV13 dc13 pm13 cd13 ct13 : Value} {od13 an13 : Option Addr} {sl13 : Array (Option Value)}
    {f14 : Addr} {oc14 kV14 dc14 pm14 cd14 ct14 : Value} {od14 an14 : Option Addr} {sl14 : Array (Option Value)}
    {f15 : Addr} {oc15 kV15 dc15 pm15 cd15 ct15 : Value} {od15 an15 : Option Addr} {sl15 : Array (Option Value)}
    {f16 : Addr} {oc16 kV16 dc16 pm16 cd16 ct16 : Value} {od16 an16 : Option Addr} {sl16 : Array (Option Value)}
    {f17 : Addr} {oc17 kV17 dc17 pm17 cd17 ct17 : Value} {od17 an17 : Option Addr} {sl17 : Array (Option Value)}
    {f18 : Addr} {oc18 kV18 dc18 pm18 cd18 ct18 : Value} {od18 an18 : Option Addr} {sl18 : Array (Option Value)}
    {f19 : Addr} {oc19 kV19 dc19 pm19 cd19 ct19 : Value} {od19 an19 : Option Addr} {sl19 : Array (Option Value)}
    {f20 : Addr} {oc20 kV20 dc20 pm20 cd20 ct20 : Value} {od20 an20 : Option Addr} {sl20 : Array (Option Value)}
    {f21 : Addr} {oc21 kV21 dc21 pm21 cd21 ct21 : Value} {od21 an21 : Option Addr} {sl21 : Array (Option Value)}
    {kt_TEXT_ROLES_0_0 : Tok}
    {kt_TEXT_ROLES_0_1 : Tok}
    {kt_TEXT_ROLES_0_2 : Tok}
    {kt_TEXT_ROLES_0_3 : Tok}
    {kt_TEXT_ROLES_0_4 : Tok}
    {kA_TEXT_ROLES_0 : Addr} {kod_TEXT_ROLES_0 : Option Addr} {kn_TEXT_ROLES_0 : Nat} {ksl_TEXT_ROLES_0 : Array (Option Value)}
    {kA_INNER_ROLES_0 : Addr} {kn_INNER_ROLES_0 : Nat}
    {kh_INNER_ROLES_0 : Int} {kt_INNER_ROLES_0 : Tok}
    {kt_INNER_ROLES_1_0 : Tok}
    {kt_INNER_ROLES_1_1 : Tok}
    {kA_INNER_ROLES_1 : Addr} {kod_INNER_ROLES_1 : Option Addr} {kn_INNER_ROLES_1 : Nat} {ksl_INNER_ROLES_1 : Array (Option Value)}
    {kh_INNER_ROLES_1 : Int} {kt_INNER_ROLES_1 : Tok}
    {kt_INNER_ROLES_2_0 : Tok}
    {kt_INNER_ROLES_2_1 : Tok}
    {kt_INNER_ROLES_2_2 : Tok}
    {kt_INNER_ROLES_2_3 : Tok}
    {kA_INNER_ROLES_2 : Addr} {kod_INNER_ROLES_2 : Option Addr} {kn_INNER_ROLES_2 : Nat} {ksl_INNER_ROLES_2 : Array (Option Value)}
    {kh_INNER_ROLES_2 : Int} {kt_INNER_ROLES_2 : Tok}
    {kt_INNER_ROLES_3_0 : Tok}
    {kt_INNER_ROLES_3_1 : Tok}
    {kA_INNER_ROLES_3 : Addr} {kod_INNER_ROLES_3 : Option Addr} {kn_INNER_ROLES_3 : Nat} {ksl_INNER_ROLES_3 : Array (Option Value)}
    {kh_INNER_ROLES_3 : Int} {kt_INNER_ROLES_3 : Tok}
    {kt_INNER_ROLES_4_0 : Tok}
    {kt_INNER_ROLES_4_1 : Tok}
    {kA_INNER_ROLES_4 : Addr} {kod_INNER_ROLES_4 : Option Addr} {kn_INNER_ROLES_4 : Nat} {ksl_INNER_ROLES_4 : Array (Option Value)}
    {kh_INNER_ROLES_4 : Int} {kt_INNER_ROLES_4 : Tok}
    {kt_INNER_ROLES_5_0 : Tok}
    {kA_INNER_ROLES_5 : Addr} {kod_INNER_ROLES_5 : Option Addr} {kn_INNER_ROLES_5 : Nat} {ksl_INNER_ROLES_5 : Array (Option Value)}
    {kh_INNER_ROLES_5 : Int} {kt_INNER_ROLES_5 : Tok}
    {kt_INNER_ROLES_6_0 : Tok}
    {kA_INNER_ROLES_6 : Addr} {kod_INNER_ROLES_6 : Option Addr} {kn_INNER_ROLES_6 : Nat} {ksl_INNER_ROLES_6 : Array (Option Value)}
    {kh_INNER_ROLES_6 : Int} {kt_INNER_ROLES_6 : Tok}
    {kA_INNER_ROLES_7 : Addr} {kod_INNER_ROLES_7 : Option Addr} {kn_INNER_ROLES_7 : Nat} {ksl_INNER_ROLES_7 : Array (Option Value)}
    {A_Misfit : Addr}
    {A_NoPlace : Addr}
    {A_Strange : Addr}
    {A_Taken : Addr}
    {A_Unknown : Addr}
    {nm_Misfit qq_Misfit : Str} {N_Misfit fI_Misfit : Addr} {bs_Misfit bm_Misfit : List Value} {sn_Misfit : List Str} {sb_Misfit : List Value} {ab_Misfit : Bool} {co_Misfit : Option Bool} {dd_Misfit od_Misfit an_Misfit : Option Addr} {m0_Misfit m1_Misfit m2_Misfit m3_Misfit m5_Misfit : Option Value} {oc_Misfit kV_Misfit dc_Misfit pm_Misfit cd_Misfit ct_Misfit : Value} {sl_Misfit : Array (Option Value)}
    {nm_NoPlace qq_NoPlace : Str} {N_NoPlace fI_NoPlace : Addr} {bs_NoPlace bm_NoPlace : List Value} {sn_NoPlace : List Str} {sb_NoPlace : List Value} {ab_NoPlace : Bool} {co_NoPlace : Option Bool} {dd_NoPlace od_NoPlace an_NoPlace : Option Addr} {m0_NoPlace m1_NoPlace m2_NoPlace m3_NoPlace m5_NoPlace : Option Value} {oc_NoPlace kV_NoPlace dc_NoPlace pm_NoPlace cd_NoPlace ct_NoPlace : Value} {sl_NoPlace : Array (Option Value)}
    {nm_Strange qq_Strange : Str} {N_Strange fI_Strange : Addr} {bs_Strange bm_Strange : List Value} {sn_Strange : List Str} {sb_Strange : List Value} {ab_Strange : Bool} {co_Strange : Option Bool} {dd_Strange od_Strange an_Strange : Option Addr} {m0_Strange m1_Strange m2_Strange m3_Strange m5_Strange : Option Value} {oc_Strange kV_Strange dc_Strange pm_Strange cd_Strange ct_Strange : Value} {sl_Strange : Array (Option Value)}
    {nm_Taken qq_Taken : Str} {N_Taken fI_Taken : Addr} {bs_Taken bm_Taken : List Value} {sn_Taken : List Str} {sb_Taken : List Value} {ab_Taken : Bool} {co_Taken : Option Bool} {dd_Taken od_Taken an_Taken : Option Addr} {m0_Taken m1_Taken m2_Taken m3_Taken m5_Taken : Option Value} {oc_Taken kV_Taken dc_Taken pm_Taken cd_Taken ct_Taken : Value} {sl_Taken : Array (Option Value)}
    {nm_Unknown qq_Unknown : Str} {N_Unknown fI_Unknown : Addr} {bs_Unknown bm_Unknown : List Value} {sn_Unknown : List Str} {sb_Unknown : List Value} {ab_Unknown : Bool} {co_Unknown : Option Bool} {dd_Unknown od_Unknown an_Unknown : Option Addr} {m0_Unknown m1_Unknown m2_Unknown m3_Unknown m5_Unknown : Option Value} {oc_Unknown kV_Unknown dc_Unknown pm_Unknown cd_Unknown ct_Unknown : Value} {sl_Unknown : Array (Option Value)}
    {A_Grammar : Addr}
    (a0 : PySem.W.nsIn K mainGlobals "all_nodes" = some (some (.ref f0)))
    (l0 : K.lookup f0 = some ⟨oc0, od0, .func (PySem.W.fnOf "all_nodes" "all_nodes" (defArgs s_all_nodes) (defBody s_all_nodes) (defScope s_all_nodes) .none kV0 dc0 pm0 an0 cd0 ct0), sl0⟩) (c0 : PySem.W.codeIn K cd0 "all_nodes" = true) (k0 : PySem.W.keepIn K (.ref f0) = true)
    (a1 : PySem.W.nsIn K mainGlobals "node_at" = some (some (.ref f1)))
    (l1 : K.lookup f1 = some ⟨oc1, od1, .func (PySem.W.fnOf "node_at" "node_at" (defArgs s_node_at) (defBody s_node_at) (defScope s_node_at) .none kV1 dc1 pm1 an1 cd1 ct1), sl1⟩) (c1 : PySem.W.codeIn K cd1 "node_at" = true) (k1 : PySem.W.keepIn K (.ref f1) = true)
    (l2 : K.lookup f2 = some ⟨oc2, od2, .func (PySem.W.fnOf "check_inner" "Grammar.check_inner" (defArgs s_Grammar_check_inner) (defBody s_Grammar_check_inner) (defScope s_Grammar_check_inner) .none kV2 dc2 pm2 an2 cd2 ct2), sl2⟩) (c2 : PySem.W.codeIn K cd2 "Grammar.check_inner" = true) (k2 : PySem.W.keepIn K (.ref f2) = true)
    (l3 : K.lookup f3 = some ⟨oc3, od3, .func (PySem.W.fnOf "__init__" "Grammar.__init__" (defArgs s_Grammar_init) (defBody s_Grammar_init) (defScope s_Grammar_init) .none kV3 dc3 pm3 an3 cd3 ct3), sl3⟩) (c3 : PySem.W.codeIn K cd3 "Grammar.__init__" = true) (k3 : PySem.W.keepIn K (.ref f3) = true)
    (l4 : K.lookup f4 = some ⟨oc4, od4, .func (PySem.W.fnOf "may_stand" "Grammar.may_stand" (defArgs s_Grammar_may_stand) (defBody s_Grammar_may_stand) (defScope s_Grammar_may_stand) .none kV4 dc4 pm4 an4 cd4 ct4), sl4⟩) (c4 : PySem.W.codeIn K cd4 "Grammar.may_stand" = true) (k4 : PySem.W.keepIn K (.ref f4) = true)
    (l5 : K.lookup f5 = some ⟨oc5, od5, .func (PySem.W.fnOf "check" "Grammar.check" (defArgs s_Grammar_check) (defBody s_Grammar_check) (defScope s_Grammar_check) .none kV5 dc5 pm5 an5 cd5 ct5), sl5⟩) (c5 : PySem.W.codeIn K cd5 "Grammar.check" = true) (k5 : PySem.W.keepIn K (.ref f5) = true)
    (l6 : K.lookup f6 = some ⟨oc6, od6, .func (PySem.W.fnOf "elements_of" "Grammar.elements_of" (defArgs s_Grammar_elements_of) (defBody s_Grammar_elements_of) (defScope s_Grammar_elements_of) .none kV6 dc6 pm6 an6 cd6 ct6), sl6⟩) (c6 : PySem.W.codeIn K cd6 "Grammar.elements_of" = true) (k6 : PySem.W.keepIn K (.ref f6) = true)
    (l7 : K.lookup f7 = some ⟨oc7, od7, .func (PySem.W.fnOf "rows_of" "Grammar.rows_of" (defArgs s_Grammar_rows_of) (defBody s_Grammar_rows_of) (defScope s_Grammar_rows_of) .none kV7 dc7 pm7 an7 cd7 ct7), sl7⟩) (c7 : PySem.W.codeIn K cd7 "Grammar.rows_of" = true) (k7 : PySem.W.keepIn K (.ref f7) = true)
    (l8 : K.lookup f8 = some ⟨oc8, od8, .func (PySem.W.fnOf "every_tree" "Grammar.every_tree" (defArgs s_Grammar_every_tree) (defBody s_Grammar_every_tree) (defScope s_Grammar_every_tree) .none kV8 dc8 pm8 an8 cd8 ct8), sl8⟩) (c8 : PySem.W.codeIn K cd8 "Grammar.every_tree" = true) (k8 : PySem.W.keepIn K (.ref f8) = true)
    (a9 : PySem.W.nsIn K mainGlobals "_law_cell" = some (some (.ref f9)))
    (l9 : K.lookup f9 = some ⟨oc9, od9, .func (PySem.W.fnOf "_law_cell" "_law_cell" (defArgs s_l_cell) (defBody s_l_cell) (defScope s_l_cell) .none kV9 dc9 pm9 an9 cd9 ct9), sl9⟩) (c9 : PySem.W.codeIn K cd9 "_law_cell" = true) (k9 : PySem.W.keepIn K (.ref f9) = true)
    (a10 : PySem.W.nsIn K mainGlobals "_law_row" = some (some (.ref f10)))
    (l10 : K.lookup f10 = some ⟨oc10, od10, .func (PySem.W.fnOf "_law_row" "_law_row" (defArgs s_l_row) (defBody s_l_row) (defScope s_l_row) .none kV10 dc10 pm10 an10 cd10 ct10), sl10⟩) (c10 : PySem.W.codeIn K cd10 "_law_row" = true) (k10 : PySem.W.keepIn K (.ref f10) = true)
    (a11 : PySem.W.nsIn K mainGlobals "_law_names" = some (some (.ref f11)))
    (l11 : K.lookup f11 = some ⟨oc11, od11, .func (PySem.W.fnOf "_law_names" "_law_names" (defArgs s_l_names) (defBody s_l_names) (defScope s_l_names) .none kV11 dc11 pm11 an11 cd11 ct11), sl11⟩) (c11 : PySem.W.codeIn K cd11 "_law_names" = true) (k11 : PySem.W.keepIn K (.ref f11) = true)
    (a12 : PySem.W.nsIn K mainGlobals "_law_kinds" = some (some (.ref f12)))
    (l12 : K.lookup f12 = some ⟨oc12, od12, .func (PySem.W.fnOf "_law_kinds" "_law_kinds" (defArgs s_l_kinds) (defBody s_l_kinds) (defScope s_l_kinds) .none kV12 dc12 pm12 an12 cd12 ct12), sl12⟩) (c12 : PySem.W.codeIn K cd12 "_law_kinds" = true) (k12 : PySem.W.keepIn K (.ref f12) = true)
    (a13 : PySem.W.nsIn K mainGlobals "_law_may" = some (some (.ref f13)))
    (l13 : K.lookup f13 = some ⟨oc13, od13, .func (PySem.W.fnOf "_law_may" "_law_may" (defArgs s_l_may) (defBody s_l_may) (defScope s_l_may) .none kV13 dc13 pm13 an13 cd13 ct13), sl13⟩) (c13 : PySem.W.codeIn K cd13 "_law_may" = true) (k13 : PySem.W.keepIn K (.ref f13) = true)
    (a14 : PySem.W.nsIn K mainGlobals "_law_grammar" = some (some (.ref f14)))
    (l14 : K.lookup f14 = some ⟨oc14, od14, .func (PySem.W.fnOf "_law_grammar" "_law_grammar" (defArgs s_l_grammar) (defBody s_l_grammar) (defScope s_l_grammar) .none kV14 dc14 pm14 an14 cd14 ct14), sl14⟩) (c14 : PySem.W.codeIn K cd14 "_law_grammar" = true) (k14 : PySem.W.keepIn K (.ref f14) = true)
    (a15 : PySem.W.nsIn K mainGlobals "_law_usual" = some (some (.ref f15)))
    (l15 : K.lookup f15 = some ⟨oc15, od15, .func (PySem.W.fnOf "_law_usual" "_law_usual" (defArgs s_l_usual) (defBody s_l_usual) (defScope s_l_usual) .none kV15 dc15 pm15 an15 cd15 ct15), sl15⟩) (c15 : PySem.W.codeIn K cd15 "_law_usual" = true) (k15 : PySem.W.keepIn K (.ref f15) = true)
    (a16 : PySem.W.nsIn K mainGlobals "_law_table" = some (some (.ref f16)))
    (l16 : K.lookup f16 = some ⟨oc16, od16, .func (PySem.W.fnOf "_law_table" "_law_table" (defArgs s_l_table) (defBody s_l_table) (defScope s_l_table) .none kV16 dc16 pm16 an16 cd16 ct16), sl16⟩) (c16 : PySem.W.codeIn K cd16 "_law_table" = true) (k16 : PySem.W.keepIn K (.ref f16) = true)
    (a17 : PySem.W.nsIn K mainGlobals "_law_ways" = some (some (.ref f17)))
    (l17 : K.lookup f17 = some ⟨oc17, od17, .func (PySem.W.fnOf "_law_ways" "_law_ways" (defArgs s_l_ways) (defBody s_l_ways) (defScope s_l_ways) .none kV17 dc17 pm17 an17 cd17 ct17), sl17⟩) (c17 : PySem.W.codeIn K cd17 "_law_ways" = true) (k17 : PySem.W.keepIn K (.ref f17) = true)
    (a18 : PySem.W.nsIn K mainGlobals "_law_counts" = some (some (.ref f18)))
    (l18 : K.lookup f18 = some ⟨oc18, od18, .func (PySem.W.fnOf "_law_counts" "_law_counts" (defArgs s_l_counts) (defBody s_l_counts) (defScope s_l_counts) .none kV18 dc18 pm18 an18 cd18 ct18), sl18⟩) (c18 : PySem.W.codeIn K cd18 "_law_counts" = true) (k18 : PySem.W.keepIn K (.ref f18) = true)
    (a19 : PySem.W.nsIn K mainGlobals "_law_size" = some (some (.ref f19)))
    (l19 : K.lookup f19 = some ⟨oc19, od19, .func (PySem.W.fnOf "_law_size" "_law_size" (defArgs s_l_size) (defBody s_l_size) (defScope s_l_size) .none kV19 dc19 pm19 an19 cd19 ct19), sl19⟩) (c19 : PySem.W.codeIn K cd19 "_law_size" = true) (k19 : PySem.W.keepIn K (.ref f19) = true)
    (a20 : PySem.W.nsIn K mainGlobals "_law_all" = some (some (.ref f20)))
    (l20 : K.lookup f20 = some ⟨oc20, od20, .func (PySem.W.fnOf "_law_all" "_law_all" (defArgs s_l_all) (defBody s_l_all) (defScope s_l_all) .none kV20 dc20 pm20 an20 cd20 ct20), sl20⟩) (c20 : PySem.W.codeIn K cd20 "_law_all" = true) (k20 : PySem.W.keepIn K (.ref f20) = true)
    (a21 : PySem.W.nsIn K mainGlobals "law" = some (some (.ref f21)))
    (l21 : K.lookup f21 = some ⟨oc21, od21, .func (PySem.W.fnOf "law" "law" (defArgs s_law) (defBody s_law) (defScope s_law) .none kV21 dc21 pm21 an21 cd21 ct21), sl21⟩) (c21 : PySem.W.codeIn K cd21 "law" = true) (k21 : PySem.W.keepIn K (.ref f21) = true)
    (z_int : PySem.W.nsIn K mainGlobals "int" = some none)
    (z_isinstance : PySem.W.nsIn K mainGlobals "isinstance" = some none)
    (z_len : PySem.W.nsIn K mainGlobals "len" = some none)
    (z_list : PySem.W.nsIn K mainGlobals "list" = some none)
    (z_max : PySem.W.nsIn K mainGlobals "max" = some none)
    (z_range : PySem.W.nsIn K mainGlobals "range" = some none)
    (z_sorted : PySem.W.nsIn K mainGlobals "sorted" = some none)
    (z_str : PySem.W.nsIn K mainGlobals "str" = some none)
    (z_sum : PySem.W.nsIn K mainGlobals "sum" = some none)
    (z_tuple : PySem.W.nsIn K mainGlobals "tuple" = some none)
    (y_TEXT_ROLES : PySem.W.nsIn K mainGlobals "TEXT_ROLES" = some (some (.ref kA_TEXT_ROLES_0)))
    (kl_TEXT_ROLES_0 : K.lookup kA_TEXT_ROLES_0 = some ⟨.type "tuple", kod_TEXT_ROLES_0, .seq #[.str "block" kt_TEXT_ROLES_0_0, .str "head" kt_TEXT_ROLES_0_1, .str "span" kt_TEXT_ROLES_0_2, .str "note" kt_TEXT_ROLES_0_3, .str "figure" kt_TEXT_ROLES_0_4] kn_TEXT_ROLES_0, ksl_TEXT_ROLES_0⟩)
    (y_INNER_ROLES : PySem.W.nsIn K mainGlobals "INNER_ROLES" = some (some (.ref kA_INNER_ROLES_0)))
    (kl_INNER_ROLES_1 : K.lookup kA_INNER_ROLES_1 = some ⟨.type "tuple", kod_INNER_ROLES_1, .seq #[.str "block" kt_INNER_ROLES_1_0, .str "head" kt_INNER_ROLES_1_1] kn_INNER_ROLES_1, ksl_INNER_ROLES_1⟩)
    (kl_INNER_ROLES_2 : K.lookup kA_INNER_ROLES_2 = some ⟨.type "tuple", kod_INNER_ROLES_2, .seq #[.str "span" kt_INNER_ROLES_2_0, .str "note" kt_INNER_ROLES_2_1, .str "figure" kt_INNER_ROLES_2_2, .str "ref" kt_INNER_ROLES_2_3] kn_INNER_ROLES_2, ksl_INNER_ROLES_2⟩)
    (kl_INNER_ROLES_3 : K.lookup kA_INNER_ROLES_3 = some ⟨.type "tuple", kod_INNER_ROLES_3, .seq #[.str "span" kt_INNER_ROLES_3_0, .str "ref" kt_INNER_ROLES_3_1] kn_INNER_ROLES_3, ksl_INNER_ROLES_3⟩)
    (kl_INNER_ROLES_4 : K.lookup kA_INNER_ROLES_4 = some ⟨.type "tuple", kod_INNER_ROLES_4, .seq #[.str "span" kt_INNER_ROLES_4_0, .str "ref" kt_INNER_ROLES_4_1] kn_INNER_ROLES_4, ksl_INNER_ROLES_4⟩)
    (kl_INNER_ROLES_5 : K.lookup kA_INNER_ROLES_5 = some ⟨.type "tuple", kod_INNER_ROLES_5, .seq #[.str "span" kt_INNER_ROLES_5_0] kn_INNER_ROLES_5, ksl_INNER_ROLES_5⟩)
    (kl_INNER_ROLES_6 : K.lookup kA_INNER_ROLES_6 = some ⟨.type "tuple", kod_INNER_ROLES_6, .seq #[.str "span" kt_INNER_ROLES_6_0] kn_INNER_ROLES_6, ksl_INNER_ROLES_6⟩)
    (kl_INNER_ROLES_7 : K.lookup kA_INNER_ROLES_7 = some ⟨.type "tuple", kod_INNER_ROLES_7, .seq #[] kn_INNER_ROLES_7, ksl_INNER_ROLES_7⟩)
    (kl_INNER_ROLES_0 : K.lookup kA_INNER_ROLES_0 = some ⟨.type "dict", none, .dict #[⟨kh_INNER_ROLES_0, .str "root" kt_INNER_ROLES_0, .ref kA_INNER_ROLES_1⟩, ⟨kh_INNER_ROLES_1, .str "block" kt_INNER_ROLES_1, .ref kA_INNER_ROLES_2⟩, ⟨kh_INNER_ROLES_2, .str "head" kt_INNER_ROLES_2, .ref kA_INNER_ROLES_3⟩, ⟨kh_INNER_ROLES_3, .str "span" kt_INNER_ROLES_3, .ref kA_INNER_ROLES_4⟩, ⟨kh_INNER_ROLES_4, .str "note" kt_INNER_ROLES_4, .ref kA_INNER_ROLES_5⟩, ⟨kh_INNER_ROLES_5, .str "figure" kt_INNER_ROLES_5, .ref kA_INNER_ROLES_6⟩, ⟨kh_INNER_ROLES_6, .str "ref" kt_INNER_ROLES_6, .ref kA_INNER_ROLES_7⟩] kn_INNER_ROLES_0, #[]⟩)
    (kk_INNER_ROLES : PySem.W.KeysLit w.params [⟨kh_INNER_ROLES_0, .str "root" kt_INNER_ROLES_0, .ref kA_INNER_ROLES_1⟩, ⟨kh_INNER_ROLES_1, .str "block" kt_INNER_ROLES_1, .ref kA_INNER_ROLES_2⟩, ⟨kh_INNER_ROLES_2, .str "head" kt_INNER_ROLES_2, .ref kA_INNER_ROLES_3⟩, ⟨kh_INNER_ROLES_3, .str "span" kt_INNER_ROLES_3, .ref kA_INNER_ROLES_4⟩, ⟨kh_INNER_ROLES_4, .str "note" kt_INNER_ROLES_4, .ref kA_INNER_ROLES_5⟩, ⟨kh_INNER_ROLES_5, .str "figure" kt_INNER_ROLES_5, .ref kA_INNER_ROLES_6⟩, ⟨kh_INNER_ROLES_6, .str "ref" kt_INNER_ROLES_6, .ref kA_INNER_ROLES_7⟩])
    (km_INNER_ROLES : (kA_INNER_ROLES_0 == sysModules) = false)
    (x_Misfit : PySem.W.nsIn K mainGlobals "Misfit" = some (some (.ref A_Misfit)))
    (x_NoPlace : PySem.W.nsIn K mainGlobals "NoPlace" = some (some (.ref A_NoPlace)))
    (x_Strange : PySem.W.nsIn K mainGlobals "Strange" = some (some (.ref A_Strange)))
    (x_Taken : PySem.W.nsIn K mainGlobals "Taken" = some (some (.ref A_Taken)))
    (x_Unknown : PySem.W.nsIn K mainGlobals "Unknown" = some (some (.ref A_Unknown)))
    (X1_Misfit : K.lookup A_Misfit = some (excClassObj nm_Misfit qq_Misfit A_Misfit N_Misfit bs_Misfit bm_Misfit true sn_Misfit sb_Misfit ab_Misfit co_Misfit dd_Misfit m0_Misfit m1_Misfit m2_Misfit m3_Misfit m5_Misfit "ValueError.__new__")) (X2_Misfit : PySem.HandSPX.refsVE bm_Misfit = true)
    (X3_Misfit : PySem.W.findIn K (.ref A_Misfit) "__setattr__" = some (some (.builtin "object.__setattr__"))) (X4_Misfit : PySem.W.subIn K (.ref A_Misfit) (.type "BaseException") = some true) (X5_Misfit : PySem.W.typeIn K (.ref A_Misfit) = some (.type "type")) (X6_Misfit : PySem.W.keepIn K (.ref A_Misfit) = true)
    (X7_Misfit : PySem.W.findIn K (.ref A_Misfit) "__init__" = some (some (.ref fI_Misfit))) (X8_Misfit : PySem.W.typeIn K (.ref fI_Misfit) = some (.type "function")) (X9_Misfit : K.lookup fI_Misfit = some ⟨oc_Misfit, od_Misfit, .func (PySem.W.fnOf "__init__" "Misfit.__init__" (defArgs s_Misfit) (defBody s_Misfit) (defScope s_Misfit) .none kV_Misfit dc_Misfit pm_Misfit an_Misfit cd_Misfit ct_Misfit), sl_Misfit⟩) (Xa_Misfit : PySem.W.codeIn K cd_Misfit "Misfit.__init__" = true) (Xb_Misfit : PySem.W.keepIn K (.ref fI_Misfit) = true)
    (Y0_Misfit : PySem.W.findIn K (.ref A_Misfit) "kind" = some none)
    (Xc_Misfit : PySem.W.findIn K (.ref A_Misfit) "__getattribute__" = some (some (.builtin "BaseException.__getattribute__"))) (Xd_Misfit : PySem.W.findIn K (.ref A_Misfit) "__getattr__" = some none) (Xe_Misfit : PySem.W.hasDictIn K A_Misfit = true)
    (Xf_Misfit : PySem.W.findIn K (.ref A_Misfit) "__class__" = some (some (.builtin "object.__class__"))) (Xg_Misfit : PySem.W.specialIn K (.builtin "object.__class__") "__get__" = some (some (.builtin "getset_descriptor.__get__"))) (Xh_Misfit : PySem.W.takesIn K (.builtin "object.__class__") = some true) (Xi_Misfit : PySem.W.mroIn K A_Misfit (.type "object") = some true)
    (X1_NoPlace : K.lookup A_NoPlace = some (excClassObj nm_NoPlace qq_NoPlace A_NoPlace N_NoPlace bs_NoPlace bm_NoPlace true sn_NoPlace sb_NoPlace ab_NoPlace co_NoPlace dd_NoPlace m0_NoPlace m1_NoPlace m2_NoPlace m3_NoPlace m5_NoPlace "ValueError.__new__")) (X2_NoPlace : PySem.HandSPX.refsVE bm_NoPlace = true)
    (X3_NoPlace : PySem.W.findIn K (.ref A_NoPlace) "__setattr__" = some (some (.builtin "object.__setattr__"))) (X4_NoPlace : PySem.W.subIn K (.ref A_NoPlace) (.type "BaseException") = some true) (X5_NoPlace : PySem.W.typeIn K (.ref A_NoPlace) = some (.type "type")) (X6_NoPlace : PySem.W.keepIn K (.ref A_NoPlace) = true)
    (X7_NoPlace : PySem.W.findIn K (.ref A_NoPlace) "__init__" = some (some (.ref fI_NoPlace))) (X8_NoPlace : PySem.W.typeIn K (.ref fI_NoPlace) = some (.type "function")) (X9_NoPlace : K.lookup fI_NoPlace = some ⟨oc_NoPlace, od_NoPlace, .func (PySem.W.fnOf "__init__" "NoPlace.__init__" (defArgs s_NoPlace) (defBody s_NoPlace) (defScope s_NoPlace) .none kV_NoPlace dc_NoPlace pm_NoPlace an_NoPlace cd_NoPlace ct_NoPlace), sl_NoPlace⟩) (Xa_NoPlace : PySem.W.codeIn K cd_NoPlace "NoPlace.__init__" = true) (Xb_NoPlace : PySem.W.keepIn K (.ref fI_NoPlace) = true)
    (Y0_NoPlace : PySem.W.findIn K (.ref A_NoPlace) "place" = some none)
    (Xc_NoPlace : PySem.W.findIn K (.ref A_NoPlace) "__getattribute__" = some (some (.builtin "BaseException.__getattribute__"))) (Xd_NoPlace : PySem.W.findIn K (.ref A_NoPlace) "__getattr__" = some none) (Xe_NoPlace : PySem.W.hasDictIn K A_NoPlace = true)
    (Xf_NoPlace : PySem.W.findIn K (.ref A_NoPlace) "__class__" = some (some (.builtin "object.__class__"))) (Xg_NoPlace : PySem.W.specialIn K (.builtin "object.__class__") "__get__" = some (some (.builtin "getset_descriptor.__get__"))) (Xh_NoPlace : PySem.W.takesIn K (.builtin "object.__class__") = some true) (Xi_NoPlace : PySem.W.mroIn K A_NoPlace (.type "object") = some true)
    (X1_Strange : K.lookup A_Strange = some (excClassObj nm_Strange qq_Strange A_Strange N_Strange bs_Strange bm_Strange true sn_Strange sb_Strange ab_Strange co_Strange dd_Strange m0_Strange m1_Strange m2_Strange m3_Strange m5_Strange "ValueError.__new__")) (X2_Strange : PySem.HandSPX.refsVE bm_Strange = true)
    (X3_Strange : PySem.W.findIn K (.ref A_Strange) "__setattr__" = some (some (.builtin "object.__setattr__"))) (X4_Strange : PySem.W.subIn K (.ref A_Strange) (.type "BaseException") = some true) (X5_Strange : PySem.W.typeIn K (.ref A_Strange) = some (.type "type")) (X6_Strange : PySem.W.keepIn K (.ref A_Strange) = true)
    (X7_Strange : PySem.W.findIn K (.ref A_Strange) "__init__" = some (some (.ref fI_Strange))) (X8_Strange : PySem.W.typeIn K (.ref fI_Strange) = some (.type "function")) (X9_Strange : K.lookup fI_Strange = some ⟨oc_Strange, od_Strange, .func (PySem.W.fnOf "__init__" "Strange.__init__" (defArgs s_Strange) (defBody s_Strange) (defScope s_Strange) .none kV_Strange dc_Strange pm_Strange an_Strange cd_Strange ct_Strange), sl_Strange⟩) (Xa_Strange : PySem.W.codeIn K cd_Strange "Strange.__init__" = true) (Xb_Strange : PySem.W.keepIn K (.ref fI_Strange) = true)
    (Y0_Strange : PySem.W.findIn K (.ref A_Strange) "place" = some none)
    (Xc_Strange : PySem.W.findIn K (.ref A_Strange) "__getattribute__" = some (some (.builtin "BaseException.__getattribute__"))) (Xd_Strange : PySem.W.findIn K (.ref A_Strange) "__getattr__" = some none) (Xe_Strange : PySem.W.hasDictIn K A_Strange = true)
    (Xf_Strange : PySem.W.findIn K (.ref A_Strange) "__class__" = some (some (.builtin "object.__class__"))) (Xg_Strange : PySem.W.specialIn K (.builtin "object.__class__") "__get__" = some (some (.builtin "getset_descriptor.__get__"))) (Xh_Strange : PySem.W.takesIn K (.builtin "object.__class__") = some true) (Xi_Strange : PySem.W.mroIn K A_Strange (.type "object") = some true)
    (X1_Taken : K.lookup A_Taken = some (excClassObj nm_Taken qq_Taken A_Taken N_Taken bs_Taken bm_Taken true sn_Taken sb_Taken ab_Taken co_Taken dd_Taken m0_Taken m1_Taken m2_Taken m3_Taken m5_Taken "ValueError.__new__")) (X2_Taken : PySem.HandSPX.refsVE bm_Taken = true)
    (X3_Taken : PySem.W.findIn K (.ref A_Taken) "__setattr__" = some (some (.builtin "object.__setattr__"))) (X4_Taken : PySem.W.subIn K (.ref A_Taken) (.type "BaseException") = some true) (X5_Taken : PySem.W.typeIn K (.ref A_Taken) = some (.type "type")) (X6_Taken : PySem.W.keepIn K (.ref A_Taken) = true)
    (X7_Taken : PySem.W.findIn K (.ref A_Taken) "__init__" = some (some (.ref fI_Taken))) (X8_Taken : PySem.W.typeIn K (.ref fI_Taken) = some (.type "function")) (X9_Taken : K.lookup fI_Taken = some ⟨oc_Taken, od_Taken, .func (PySem.W.fnOf "__init__" "Taken.__init__" (defArgs s_Taken) (defBody s_Taken) (defScope s_Taken) .none kV_Taken dc_Taken pm_Taken an_Taken cd_Taken ct_Taken), sl_Taken⟩) (Xa_Taken : PySem.W.codeIn K cd_Taken "Taken.__init__" = true) (Xb_Taken : PySem.W.keepIn K (.ref fI_Taken) = true)
    (Y0_Taken : PySem.W.findIn K (.ref A_Taken) "kind" = some none)
    (Xc_Taken : PySem.W.findIn K (.ref A_Taken) "__getattribute__" = some (some (.builtin "BaseException.__getattribute__"))) (Xd_Taken : PySem.W.findIn K (.ref A_Taken) "__getattr__" = some none) (Xe_Taken : PySem.W.hasDictIn K A_Taken = true)
    (Xf_Taken : PySem.W.findIn K (.ref A_Taken) "__class__" = some (some (.builtin "object.__class__"))) (Xg_Taken : PySem.W.specialIn K (.builtin "object.__class__") "__get__" = some (some (.builtin "getset_descriptor.__get__"))) (Xh_Taken : PySem.W.takesIn K (.builtin "object.__class__") = some true) (Xi_Taken : PySem.W.mroIn K A_Taken (.type "object") = some true)
    (X1_Unknown : K.lookup A_Unknown = some (excClassObj nm_Unknown qq_Unknown A_Unknown N_Unknown bs_Unknown bm_Unknown true sn_Unknown sb_Unknown ab_Unknown co_Unknown dd_Unknown m0_Unknown m1_Unknown m2_Unknown m3_Unknown m5_Unknown "ValueError.__new__")) (X2_Unknown : PySem.HandSPX.refsVE bm_Unknown = true)
    (X3_Unknown : PySem.W.findIn K (.ref A_Unknown) "__setattr__" = some (some (.builtin "object.__setattr__"))) (X4_Unknown : PySem.W.subIn K (.ref A_Unknown) (.type "BaseException") = some true) (X5_Unknown : PySem.W.typeIn K (.ref A_Unknown) = some (.type "type")) (X6_Unknown : PySem.W.keepIn K (.ref A_Unknown) = true)
    (X7_Unknown : PySem.W.findIn K (.ref A_Unknown) "__init__" = some (some (.ref fI_Unknown))) (X8_Unknown : PySem.W.typeIn K (.ref fI_Unknown) = some (.type "function")) (X9_Unknown : K.lookup fI_Unknown = some ⟨oc_Unknown, od_Unknown, .func (PySem.W.fnOf "__init__" "Unknown.__init__" (defArgs s_Unknown) (defBody s_Unknown) (defScope s_Unknown) .none kV_Unknown dc_Unknown pm_Unknown an_Unknown cd_Unknown ct_Unknown), sl_Unknown⟩) (Xa_Unknown : PySem.W.codeIn K cd_Unknown "Unknown.__init__" = true) (Xb_Unknown : PySem.W.keepIn K (.ref fI_Unknown) = true)
    (Y0_Unknown : PySem.W.findIn K (.ref A_Unknown) "kind" = some none)
    (Xc_Unknown : PySem.W.findIn K (.ref A_Unknown) "__getattribute__" = some (some (.builtin "BaseException.__getattribute__"))) (Xd_Unknown : PySem.W.findIn K (.ref A_Unknown) "__getattr__" = some none) (Xe_Unknown : PySem.W.hasDictIn K A_Unknown = true)
    (Xf_Unknown : PySem.W.findIn K (.ref A_Unknown) "__class__" = some (some (.builtin "object.__class__"))) (Xg_Unknown : PySem.W.specialIn K (.builtin "object.__class__") "__get__" = some (some (.builtin "getset_descriptor.__get__"))) (Xh_Unknown : PySem.W.takesIn K (.builtin "object.__class__") = some true) (Xi_Unknown : PySem.W.mroIn K A_Unknown (.type "object") = some true)
    (x_Grammar : PySem.W.nsIn K mainGlobals "Grammar" = some (some (.ref A_Grammar))) (P1_Grammar : PySem.W.plainGet K A_Grammar Str.empty = true) (P2_Grammar : PySem.W.hasDictIn K A_Grammar = true) (P3_Grammar : PySem.W.plainOver K A_Grammar = true) (P4_Grammar : PySem.W.findIn K (.ref A_Grammar) "__setattr__" = some (some (.builtin "object.__setattr__")))
    (M1_Grammar : PySem.W.makesIn K A_Grammar = true) (M2_Grammar : PySem.W.findIn K (.ref A_Grammar) "__init__" = some (some (.ref f3))) (M3_Grammar : PySem.W.isFn K (.ref f3) = true) (M4_Grammar : PySem.W.keepIn K (.ref A_Grammar) = true)
    (N_Grammar_entries : PySem.W.findIn K (.ref A_Grammar) "entries" = some none)
    (N_Grammar_order : PySem.W.findIn K (.ref A_Grammar) "order" = some none)
    (N_Grammar_root : PySem.W.findIn K (.ref A_Grammar) "root" = some none)
    (m1_Grammar_check : PySem.W.findIn K (.ref A_Grammar) "check" = some (some (.ref f5))) (m2_Grammar_check : PySem.W.isFn K (.ref f5) = true)
    (m1_Grammar_check_inner : PySem.W.findIn K (.ref A_Grammar) "check_inner" = some (some (.ref f2))) (m2_Grammar_check_inner : PySem.W.isFn K (.ref f2) = true)
    (m1_Grammar_elements_of : PySem.W.findIn K (.ref A_Grammar) "elements_of" = some (some (.ref f6))) (m2_Grammar_elements_of : PySem.W.isFn K (.ref f6) = true)
    (m1_Grammar_every_tree : PySem.W.findIn K (.ref A_Grammar) "every_tree" = some (some (.ref f8))) (m2_Grammar_every_tree : PySem.W.isFn K (.ref f8) = true)
    (m1_Grammar_may_stand : PySem.W.findIn K (.ref A_Grammar) "may_stand" = some (some (.ref f4))) (m2_Grammar_may_stand : PySem.W.isFn K (.ref f4) = true)
    (m1_Grammar_rows_of : PySem.W.findIn K (.ref A_Grammar) "rows_of" = some (some (.ref f7))) (m2_Grammar_rows_of : PySem.W.isFn K (.ref f7) = true) :
    ∃ fd : FuncData, (∀ (s : Shared) (v : Value), BindsTo s fd ⟨[v], []⟩ [("_law_script", v)]) ∧ ∀ base : Heap, K.In base → base.Ns mainGlobals mg → FnOk l.prog w K mg base (L2N.CX l.prog w) 28 fa fd ["_law_script"] (spLaw K) := by
  have e := hfa.symm.trans (PySem.W.mg_of X G a21)
  cases e
  obtain ⟨T, e1, e2⟩ := txt_mk X G a0 l0 c0 k0 a1 l1 c1 k1 l2 c2 k2 l3 c3 k3 l4 c4 k4 l5 c5 k5 l6 c6 k6 l7 c7 k7 l8 c8 k8 a9 l9 c9 k9 a10 l10 c10 k10 a11 l11 c11 k11 a12 l12 c12 k12 a13 l13 c13 k13 a14 l14 c14 k14 a15 l15 c15 k15 a16 l16 c16 k16 a17 l17 c17 k17 a18 l18 c18 k18 a19 l19 c19 k19 a20 l20 c20 k20 a21 l21 c21 k21 z_int z_isinstance z_len z_list z_max z_range z_sorted z_str z_sum z_tuple y_TEXT_ROLES kl_TEXT_ROLES_0 y_INNER_ROLES kl_INNER_ROLES_1 kl_INNER_ROLES_2 kl_INNER_ROLES_3 kl_INNER_ROLES_4 kl_INNER_ROLES_5 kl_INNER_ROLES_6 kl_INNER_ROLES_7 kl_INNER_ROLES_0 kk_INNER_ROLES km_INNER_ROLES x_Misfit x_NoPlace x_Strange x_Taken x_Unknown X1_Misfit X2_Misfit X3_Misfit X4_Misfit X5_Misfit X6_Misfit X7_Misfit X8_Misfit X9_Misfit Xa_Misfit Xb_Misfit Y0_Misfit Xc_Misfit Xd_Misfit Xe_Misfit Xf_Misfit Xg_Misfit Xh_Misfit Xi_Misfit X1_NoPlace X2_NoPlace X3_NoPlace X4_NoPlace X5_NoPlace X6_NoPlace X7_NoPlace X8_NoPlace X9_NoPlace Xa_NoPlace Xb_NoPlace Y0_NoPlace Xc_NoPlace Xd_NoPlace Xe_NoPlace Xf_NoPlace Xg_NoPlace Xh_NoPlace Xi_NoPlace X1_Strange X2_Strange X3_Strange X4_Strange X5_Strange X6_Strange X7_Strange X8_Strange X9_Strange Xa_Strange Xb_Strange Y0_Strange Xc_Strange Xd_Strange Xe_Strange Xf_Strange Xg_Strange Xh_Strange Xi_Strange X1_Taken X2_Taken X3_Taken X4_Taken X5_Taken X6_Taken X7_Taken X8_Taken X9_Taken Xa_Taken Xb_Taken Y0_Taken Xc_Taken Xd_Taken Xe_Taken Xf_Taken Xg_Taken Xh_Taken Xi_Taken X1_Unknown X2_Unknown X3_Unknown X4_Unknown X5_Unknown X6_Unknown X7_Unknown X8_Unknown X9_Unknown Xa_Unknown Xb_Unknown Y0_Unknown Xc_Unknown Xd_Unknown Xe_Unknown Xf_Unknown Xg_Unknown Xh_Unknown Xi_Unknown x_Grammar P1_Grammar P2_Grammar P3_Grammar P4_Grammar M1_Grammar M2_Grammar M3_Grammar M4_Grammar N_Grammar_entries N_Grammar_order N_Grammar_root m1_Grammar_check m2_Grammar_check m1_Grammar_check_inner m2_Grammar_check_inner m1_Grammar_elements_of m2_Grammar_elements_of m1_Grammar_every_tree m2_Grammar_every_tree m1_Grammar_may_stand m2_Grammar_may_stand m1_Grammar_rows_of m2_Grammar_rows_of
  refine ⟨PySem.W.fnOf "law" "law" (defArgs s_law) (defBody s_law) (defScope s_law) .none kV21 dc21 pm21 an21 cd21 ct21, fun s v => .of_eq rfl, fun base _ _ => ?_⟩
  have z := ok_end (P := l.prog) (w := w) (base := base) T
  rw [e1, e2] at z
  exact z
end Lk
end S_P_end
section S_P_top
set_option Elab.async false
set_option linter.all false
open PySem PySem.W PyProof.Rows
set_option maxRecDepth 100000 in
set_option maxHeartbeats 0 in
theorem PySem.Challenge.cw_laidforall_k07_whole_every_tree_holds : PySem.Challenge.rw_laidforall_k07_whole_every_tree.Holds := by
  w_on; o_law; k_head; (case hw => w_witness2)
  k_fill
  refine L2.walk_of (l := PySem.Challenge.rw_laidforall_k07_whole_every_tree) (n := 63) (k := 28) (x := "_law_script") (CX := fun w => L2N.CX PySem.Challenge.rw_laidforall_k07_whole_every_tree.prog w) (sp := fun w => Lk.spLaw _) rfl (by decide) rfl ⟨rfl, by decide, by decide⟩ (fun w h Y => PySem.W.kIn_of Y) ?F (fun _ _ a ns hl _ hS => ⟨a, ns, rfl, hS, hl, fun _ => rfl⟩) (fun _ _ _ _ _ h => Dx.cx_never h)
  case F =>
    intro w mg fa h KX G hmg
    refine' Lk.all_mk KX G hmg ?a0 ?l0 ?c0 ?k0 ?a1 ?l1 ?c1 ?k1 ?l2 ?c2 ?k2 ?l3 ?c3 ?k3 ?l4 ?c4 ?k4 ?l5 ?c5 ?k5 ?l6 ?c6 ?k6 ?l7 ?c7 ?k7 ?l8 ?c8 ?k8 ?a9 ?l9 ?c9 ?k9 ?a10 ?l10 ?c10 ?k10 ?a11 ?l11 ?c11 ?k11 ?a12 ?l12 ?c12 ?k12 ?a13 ?l13 ?c13 ?k13 ?a14 ?l14 ?c14 ?k14 ?a15 ?l15 ?c15 ?k15 ?a16 ?l16 ?c16 ?k16 ?a17 ?l17 ?c17 ?k17 ?a18 ?l18 ?c18 ?k18 ?a19 ?l19 ?c19 ?k19 ?a20 ?l20 ?c20 ?k20 ?a21 ?l21 ?c21 ?k21 ?z_int ?z_isinstance ?z_len ?z_list ?z_max ?z_range ?z_sorted ?z_str ?z_sum ?z_tuple ?y_TEXT_ROLES ?kl_TEXT_ROLES_0 ?y_INNER_ROLES ?kl_INNER_ROLES_1 ?kl_INNER_ROLES_2 ?kl_INNER_ROLES_3 ?kl_INNER_ROLES_4 ?kl_INNER_ROLES_5 ?kl_INNER_ROLES_6 ?kl_INNER_ROLES_7 ?kl_INNER_ROLES_0 ?kk_INNER_ROLES ?km_INNER_ROLES ?x_Misfit ?x_NoPlace ?x_Strange ?x_Taken ?x_Unknown ?X1_Misfit ?X2_Misfit ?X3_Misfit ?X4_Misfit ?X5_Misfit ?X6_Misfit ?X7_Misfit ?X8_Misfit ?X9_Misfit ?Xa_Misfit ?Xb_Misfit ?Y0_Misfit ?Xc_Misfit ?Xd_Misfit ?Xe_Misfit ?Xf_Misfit ?Xg_Misfit ?Xh_Misfit ?Xi_Misfit ?X1_NoPlace ?X2_NoPlace ?X3_NoPlace ?X4_NoPlace ?X5_NoPlace ?X6_NoPlace ?X7_NoPlace ?X8_NoPlace ?X9_NoPlace ?Xa_NoPlace ?Xb_NoPlace ?Y0_NoPlace ?Xc_NoPlace ?Xd_NoPlace ?Xe_NoPlace ?Xf_NoPlace ?Xg_NoPlace ?Xh_NoPlace ?Xi_NoPlace ?X1_Strange ?X2_Strange ?X3_Strange ?X4_Strange ?X5_Strange ?X6_Strange ?X7_Strange ?X8_Strange ?X9_Strange ?Xa_Strange ?Xb_Strange ?Y0_Strange ?Xc_Strange ?Xd_Strange ?Xe_Strange ?Xf_Strange ?Xg_Strange ?Xh_Strange ?Xi_Strange ?X1_Taken ?X2_Taken ?X3_Taken ?X4_Taken ?X5_Taken ?X6_Taken ?X7_Taken ?X8_Taken ?X9_Taken ?Xa_Taken ?Xb_Taken ?Y0_Taken ?Xc_Taken ?Xd_Taken ?Xe_Taken ?Xf_Taken ?Xg_Taken ?Xh_Taken ?Xi_Taken ?X1_Unknown ?X2_Unknown ?X3_Unknown ?X4_Unknown ?X5_Unknown ?X6_Unknown ?X7_Unknown ?X8_Unknown ?X9_Unknown ?Xa_Unknown ?Xb_Unknown ?Y0_Unknown ?Xc_Unknown ?Xd_Unknown ?Xe_Unknown ?Xf_Unknown ?Xg_Unknown ?Xh_Unknown ?Xi_Unknown ?x_Grammar ?P1_Grammar ?P2_Grammar ?P3_Grammar ?P4_Grammar ?M1_Grammar ?M2_Grammar ?M3_Grammar ?M4_Grammar ?N_Grammar_entries ?N_Grammar_order ?N_Grammar_root ?m1_Grammar_check ?m2_Grammar_check ?m1_Grammar_check_inner ?m2_Grammar_check_inner ?m1_Grammar_elements_of ?m2_Grammar_elements_of ?m1_Grammar_every_tree ?m2_Grammar_every_tree ?m1_Grammar_may_stand ?m2_Grammar_may_stand ?m1_Grammar_rows_of ?m2_Grammar_rows_of
    (case y_TEXT_ROLES => k_is)
    (case y_INNER_ROLES => k_is)
    (case x_Misfit => k_is)
    (case x_NoPlace => k_is)
    (case x_Strange => k_is)
    (case x_Taken => k_is)
    (case x_Unknown => k_is)
    (case x_Grammar => k_is)
    (case kl_INNER_ROLES_0 => k_is)
    (case kl_INNER_ROLES_1 => k_is)
    (case kl_INNER_ROLES_2 => k_is)
    (case kl_INNER_ROLES_3 => k_is)
    (case kl_INNER_ROLES_4 => k_is)
    (case kl_INNER_ROLES_5 => k_is)
    (case kl_INNER_ROLES_6 => k_is)
    (case kl_INNER_ROLES_7 => k_is)
    (case kl_TEXT_ROLES_0 => k_is)
    (case M2_Grammar => k_is)
    (case m1_Grammar_check => k_is)
    (case m1_Grammar_check_inner => k_is)
    (case m1_Grammar_elements_of => k_is)
    (case m1_Grammar_every_tree => k_is)
    (case m1_Grammar_may_stand => k_is)
    (case m1_Grammar_rows_of => k_is)
    (case a0 => k_is)
    (case l0 => k_is)
    (case c0 => k_is)
    (case k0 => k_is)
    (case a1 => k_is)
    (case l1 => k_is)
    (case c1 => k_is)
    (case k1 => k_is)
    (case l2 => k_is)
    (case c2 => k_is)
    (case k2 => k_is)
    (case l3 => k_is)
    (case c3 => k_is)
    (case k3 => k_is)
    (case l4 => k_is)
    (case c4 => k_is)
    (case k4 => k_is)
    (case l5 => k_is)
    (case c5 => k_is)
    (case k5 => k_is)
    (case l6 => k_is)
    (case c6 => k_is)
    (case k6 => k_is)
    (case l7 => k_is)
    (case c7 => k_is)
    (case k7 => k_is)
    (case l8 => k_is)
    (case c8 => k_is)
    (case k8 => k_is)
    (case a9 => k_is)
    (case l9 => k_is)
    (case c9 => k_is)
    (case k9 => k_is)
    (case a10 => k_is)
    (case l10 => k_is)
    (case c10 => k_is)
    (case k10 => k_is)
    (case a11 => k_is)
    (case l11 => k_is)
    (case c11 => k_is)
    (case k11 => k_is)
    (case a12 => k_is)
    (case l12 => k_is)
    (case c12 => k_is)
    (case k12 => k_is)
    (case a13 => k_is)
    (case l13 => k_is)
    (case c13 => k_is)
    (case k13 => k_is)
    (case a14 => k_is)
    (case l14 => k_is)
    (case c14 => k_is)
    (case k14 => k_is)
    (case a15 => k_is)
    (case l15 => k_is)
    (case c15 => k_is)
    (case k15 => k_is)
    (case a16 => k_is)
    (case l16 => k_is)
    (case c16 => k_is)
    (case k16 => k_is)
    (case a17 => k_is)
    (case l17 => k_is)
    (case c17 => k_is)
    (case k17 => k_is)
    (case a18 => k_is)
    (case l18 => k_is)
    (case c18 => k_is)
    (case k18 => k_is)
    (case a19 => k_is)
    (case l19 => k_is)
    (case c19 => k_is)
    (case k19 => k_is)
    (case a20 => k_is)
    (case l20 => k_is)
    (case c20 => k_is)
    (case k20 => k_is)
    (case a21 => k_is)
    (case l21 => k_is)
    (case c21 => k_is)
    (case k21 => k_is)
    (case z_int => k_is)
    (case z_isinstance => k_is)
    (case z_len => k_is)
    (case z_list => k_is)
    (case z_max => k_is)
    (case z_range => k_is)
    (case z_sorted => k_is)
    (case z_str => k_is)
    (case z_sum => k_is)
    (case z_tuple => k_is)
    (case kk_INNER_ROLES => k_keys)
    (case km_INNER_ROLES => decide)
    (case X1_Misfit => k_is)
    (case X2_Misfit => decide +kernel)
    (case X3_Misfit => k_is)
    (case X4_Misfit => k_is)
    (case X5_Misfit => k_is)
    (case X6_Misfit => k_is)
    (case X7_Misfit => k_is)
    (case X8_Misfit => k_is)
    (case X9_Misfit => k_is)
    (case Xa_Misfit => k_is)
    (case Xb_Misfit => k_is)
    (case Y0_Misfit => k_is)
    (case Xc_Misfit => k_is)
    (case Xd_Misfit => k_is)
    (case Xe_Misfit => k_is)
    (case Xf_Misfit => k_is)
    (case Xg_Misfit => k_is)
    (case Xh_Misfit => k_is)
    (case Xi_Misfit => k_is)
    (case X1_NoPlace => k_is)
    (case X2_NoPlace => decide +kernel)
    (case X3_NoPlace => k_is)
    (case X4_NoPlace => k_is)
    (case X5_NoPlace => k_is)
    (case X6_NoPlace => k_is)
    (case X7_NoPlace => k_is)
    (case X8_NoPlace => k_is)
    (case X9_NoPlace => k_is)
    (case Xa_NoPlace => k_is)
    (case Xb_NoPlace => k_is)
    (case Y0_NoPlace => k_is)
    (case Xc_NoPlace => k_is)
    (case Xd_NoPlace => k_is)
    (case Xe_NoPlace => k_is)
    (case Xf_NoPlace => k_is)
    (case Xg_NoPlace => k_is)
    (case Xh_NoPlace => k_is)
    (case Xi_NoPlace => k_is)
    (case X1_Strange => k_is)
    (case X2_Strange => decide +kernel)
    (case X3_Strange => k_is)
    (case X4_Strange => k_is)
    (case X5_Strange => k_is)
    (case X6_Strange => k_is)
    (case X7_Strange => k_is)
    (case X8_Strange => k_is)
    (case X9_Strange => k_is)
    (case Xa_Strange => k_is)
    (case Xb_Strange => k_is)
    (case Y0_Strange => k_is)
    (case Xc_Strange => k_is)
    (case Xd_Strange => k_is)
    (case Xe_Strange => k_is)
    (case Xf_Strange => k_is)
    (case Xg_Strange => k_is)
    (case Xh_Strange => k_is)
    (case Xi_Strange => k_is)
    (case X1_Taken => k_is)
    (case X2_Taken => decide +kernel)
    (case X3_Taken => k_is)
    (case X4_Taken => k_is)
    (case X5_Taken => k_is)
    (case X6_Taken => k_is)
    (case X7_Taken => k_is)
    (case X8_Taken => k_is)
    (case X9_Taken => k_is)
    (case Xa_Taken => k_is)
    (case Xb_Taken => k_is)
    (case Y0_Taken => k_is)
    (case Xc_Taken => k_is)
    (case Xd_Taken => k_is)
    (case Xe_Taken => k_is)
    (case Xf_Taken => k_is)
    (case Xg_Taken => k_is)
    (case Xh_Taken => k_is)
    (case Xi_Taken => k_is)
    (case X1_Unknown => k_is)
    (case X2_Unknown => decide +kernel)
    (case X3_Unknown => k_is)
    (case X4_Unknown => k_is)
    (case X5_Unknown => k_is)
    (case X6_Unknown => k_is)
    (case X7_Unknown => k_is)
    (case X8_Unknown => k_is)
    (case X9_Unknown => k_is)
    (case Xa_Unknown => k_is)
    (case Xb_Unknown => k_is)
    (case Y0_Unknown => k_is)
    (case Xc_Unknown => k_is)
    (case Xd_Unknown => k_is)
    (case Xe_Unknown => k_is)
    (case Xf_Unknown => k_is)
    (case Xg_Unknown => k_is)
    (case Xh_Unknown => k_is)
    (case Xi_Unknown => k_is)
    (case P1_Grammar => k_is)
    (case P2_Grammar => k_is)
    (case P3_Grammar => k_is)
    (case P4_Grammar => k_is)
    (case M1_Grammar => k_is)
    (case M3_Grammar => k_is)
    (case M4_Grammar => k_is)
    (case N_Grammar_entries => k_is)
    (case N_Grammar_order => k_is)
    (case N_Grammar_root => k_is)
    (case m2_Grammar_check => k_is)
    (case m2_Grammar_check_inner => k_is)
    (case m2_Grammar_elements_of => k_is)
    (case m2_Grammar_every_tree => k_is)
    (case m2_Grammar_may_stand => k_is)
    (case m2_Grammar_rows_of => k_is)
end S_P_top
