import PyProof.Rows.All
import Wide.All
import OpenK.AllK
import Wide.FinOn
import HandS.ForMost
import HandS.ForExc
import HandS.Evl
import HandS.Walk
import HandS.IsInst
import KE.KDictKeyed
import HandS.Lambda
import HandS.TupAny
import HandS.Deep
import HandS.Flow
import HandS.Wide
import HandS.Text
import HandS.CallSlots
import HandS.ExcCtx
import HandS.HotCalls
import HandS.ExcInit
import HandS.ExcField
import HandS.ExcIs
import KE.KExcIs
import HandS.ExcInitHot
import HandS.FStr
import HandS.Iter
import HandS.Zip0
import PyProof.EnumMake
import PyProof.Draws
import HandS.Style
import HandS.ClsMeth
import KE.GoesMore
import KE.GoesZip
import PyProof.StrOps2
import PyProof.Rows.MatchSeqLen
import KE.KUnpack
import HandS.NoneIn
import HandS.More
import HandS.Star
import HandS.SlotsOwn
import HandS.OwnIter
import HandS.IterVal
import KE.KCallOwn
import KE.KOwnIter
import HandS.TupLen
import HandS.Property
import HandS.Conv
import HandS.SortRule
import KE.KDictDisplayH
import HandS.Defaults
import HandS.TryOnly
import HandS.SortInts
import HandS.SortOrd
import HandS.DictComp
import KE.DataMinMax
import KE.KDictCopyH
import HandS.ListItems
import PyProof.ListStr
import PyProof.InstNe
import HandS.MakeKwOnly
import KE.KTupSum
import HandS.TryMany
import KE.KEqDict
import PyProof.EqKinds
import HandS.RaiseMore
import HandS.StrMore
import HandS.TupLe
import HandS.OwnEq
import PyProof.ListRange
import KE.KDictZip
import HandS.GenList
import KE.SortKeyHeap
import HandS.SortKw
import HandS.EndTab
import KE.KNestM
import KE.LtData
import HandS.SetFor
import HandS.Strs
import PySem.Challenge.RW_laidforall_k44_families
set_option Elab.async false
set_option linter.all false
set_option maxRecDepth 100000
section S_DxA
set_option Elab.async false
set_option linter.all false
set_option maxRecDepth 100000
namespace Dx
open PySem L2
/-- data: what a value stands for, whatever its address -/
inductive D where
  | non
  | bl (b : Bool)
  | int (i : Int)
  | str (s : Str)
  | lst (xs : List D)
  | fz (xs : List D)
  | tup (xs : List D)
  | kt (xs : List D)
  | dk (ks : List Key) (vs : List D)
  | dt (ks : List (List Key)) (vs : List D)
  | dn (ks vs : List D)
  | obj (c : Str) (ns : List Str) (vs : List D)
  | own (k : Nat)
  | st (k : Nat) (rows : List (List D))
/-- where the classes of the text stand -/
abbrev CM := Str → Option Addr
/-- H' knows o at a; of a table of code objects, that it is one -/
@[reducible] def Nx (H' : Hp) (a : Addr) (o : HO) : Prop := match o with
  | .tbl _ => ∃ ps, H' a = some (.tbl ps)
  | o => H' a = some o
theorem Nx.mk {H' : Hp} {a : Addr} {o : HO} (h : H' a = some o) : Nx H' a o := by
  cases o with
  | tbl ps => exact ⟨ps, h⟩
  | _ => exact h
/-- H' knows all that H knows; tables of code objects may have changed -/
def Ex (H H' : Hp) : Prop := ∀ a o, H a = some o → Nx H' a o
theorem Ex.refl {H : Hp} : Ex H H := fun _ _ h => .mk h
theorem Nx.up {H1 H2 : Hp} {a : Addr} {o : HO} (h : Nx H1 a o) (b : Ex H1 H2) : Nx H2 a o := by
  cases o with
  | tbl ps =>
    obtain ⟨ps1, e⟩ := h
    exact b a (.tbl ps1) e
  | _ => exact b a _ h
theorem Ex.trans {H H1 H2 : Hp} (a : Ex H H1) (b : Ex H1 H2) : Ex H H2 := fun x o h => (a x o h).up b
theorem Nx.ne {H' : Hp} {a : Addr} {o : HO} (h : Nx H' a o) (n : H' a = none) : False := by
  cases o with
  | tbl ps =>
    obtain ⟨ps1, e⟩ := h
    rw [n] at e; cases e
  | _ => have e : H' a = _ := h; rw [n] at e; cases e
theorem Nx.of {H' : Hp} {a : Addr} {o : HO} (h : Nx H' a o) (n : ∀ ps, o ≠ .tbl ps) : H' a = some o := by
  cases o with
  | tbl ps => exact absurd rfl (n ps)
  | _ => exact h
theorem Nx.at {H1 H2 : Hp} {a : Addr} {o : HO} (h : Nx H1 a o) (k : H2 a = H1 a) : Nx H2 a o := by
  cases o with
  | tbl ps =>
    obtain ⟨ps1, e⟩ := h
    exact ⟨ps1, k.trans e⟩
  | _ => exact k.trans h
theorem Ex.nn {H H' : Hp} (e : Ex H H') {p : Addr} (h : H' p = none) : H p = none := by
  cases h1 : H p with
  | none => rfl
  | some o => exact ((e p o h1).ne h).elim
theorem Ex.same {H H' : Hp} (e : Ex H H') {p : Addr} {o o' : HO} (h : H p = some o) (h' : H' p = some o') (n : ∀ ps, o' ≠ .tbl ps) : o = o' := by
  have z := e p o h
  cases o with
  | tbl ps =>
    obtain ⟨ps1, z⟩ := z
    rw [h'] at z
    exact absurd (Option.some.inj z) (n ps1)
  | _ =>
    have z : H' p = _ := z
    rw [h'] at z
    exact (Option.some.inj z).symm
theorem Ex.new {H : Hp} {p : Addr} {o : HO} (h : H p = none) : Ex H (upd H p o) := fun a u e => .mk (by
  rw [upd_ne (ne_of_none e h)]; exact e)
theorem Nx.put {H' : Hp} {a p : Addr} {o u : HO} (h : Nx H' a u) (n : a ≠ p) : Nx (upd H' p o) a u := by
  cases u with
  | tbl ps =>
    obtain ⟨ps1, e⟩ := h
    exact ⟨ps1, by rw [upd_ne n]; exact e⟩
  | _ => exact (upd_ne n).trans h
theorem Ex.put {H H' : Hp} {p : Addr} {o : HO} (e : Ex H H') (h : H p = none) : Ex H (upd H' p o) := fun a u ha => (e a u ha).put (ne_of_none ha h)
theorem Ex.both {S H : Hp} {p : Addr} {o : HO} (e : Ex S H) : Ex (upd S p o) (upd H p o) := fun a u ha => by
  by_cases h : a = p
  · subst h; rw [upd_same] at ha; exact .mk (by rw [upd_same]; exact ha)
  · rw [upd_ne h] at ha; exact (e a u ha).put h
theorem Ex.rd {H H' : Hp} {a : Addr} {u : HO} (e : Ex H H') (h : Rd H a u) (n : ∀ ps, u ≠ .tbl ps := by intro ps z; cases z) : Rd H' a u := by
  rcases h with h | ⟨o, h⟩
  · exact .inl ((e a _ h).of n)
  · exact .inr ⟨o, e a _ h⟩
theorem Ex.l {K : PySem.W.Frag} {H H' : Hp} {a : Addr} {xs : List V} (e : Ex H H') (h : SqL K H a xs) : SqL K H' a xs := by
  rcases h with h | h
  · exact .inl (e.rd h)
  · exact .inr h
theorem Ex.t {K : PySem.W.Frag} {H H' : Hp} {a : Addr} {xs : List V} (e : Ex H H') (h : SqT K H a xs) : SqT K H' a xs := by
  rcases h with h | h
  · exact .inl (e.rd h)
  · exact .inr h
mutual
def nkD : D → Option NestedKey
  | .non => some .none
  | .bl b => some (.num (if b = true then 1 else 0))
  | .int i => some (.num i)
  | .tup ds => (nkL ds).map .tup
  | .kt ds => (nkL ds).map .tup
  | _ => none
def nkL : List D → Option (List NestedKey)
  | [] => some []
  | d :: ds => match nkD d, nkL ds with
    | some k, some ks => some (k :: ks)
    | _, _ => none
end
/-- a key: a tuple, not too deep -/
def nkT (d : D) : Option NestedKey := match nkD d with
  | some (.tup ks) => if (NestedKey.tup ks).depth ≤ 8 then some (.tup ks) else none
  | _ => none
/-- an entry, its value told -/
def EntOk (e : NestedKey × Addr × V) (x : NestedKey × Addr × Value) : Prop := e.1 = x.1 ∧ e.2.1 = x.2.1 ∧ RelV e.2.2 x.2.2
/-- what stands at p, its very object; no text is in the keys, so their hashes are the same in every world -/
def dnP (p : Addr) (ob : Obj) (es : List (NestedKey × Addr × V)) (h : Heap) : Prop :=
  (p == sysModules) = false ∧ ∃ (xs : List (NestedKey × Addr × Value)) (o : Obj) (eps : Array DictEntry) (ep : Nat), Paired EntOk es xs ∧ h.get? p = some o ∧ o.ExactDict ∧ o.data = .dict eps ep ∧ (∀ w : World, eps.toList = xs.map fun x => ⟨x.1.hash w, .ref x.2.1, x.2.2⟩) ∧ o = ob
/-- the keys by data -/
structure NkOk (es : List (NestedKey × Addr × V)) (ks : List D) : Prop where
  eq : ks.map nkT = es.map fun e => some e.1
  nd : (es.map (·.1)).Nodup
  sz : es.length ≤ sizeLine
mutual
/-- the value v, at the heap S, stands for the data -/
inductive Rp (K : PySem.W.Frag) (cm : CM) (S : Hp) : V → D → Prop
  | non : Rp K cm S .non .non
  | bl (b : Bool) : Rp K cm S (.bl b) (.bl b)
  | int (i : Int) : Rp K cm S (.int i) (.int i)
  | str (x : Str) : Rp K cm S (.str x) (.str x)
  | lst {a : Addr} {xs : List V} {ds : List D} : S a = some (.lst xs) → RpA K cm S xs ds → Rp K cm S (.ref a) (.lst ds)
  | fz {a : Addr} {xs : List V} {ds : List D} : SqL K S a xs → RpA K cm S xs ds → Rp K cm S (.ref a) (.fz ds)
  | tup {a : Addr} {xs : List V} {ds : List D} : S a = some (.tup xs) → RpA K cm S xs ds → Rp K cm S (.ref a) (.tup ds)
  | kt {a : Addr} {xs : List V} {ds : List D} : SqT K S a xs → RpA K cm S xs ds → Rp K cm S (.ref a) (.kt ds)
  | dk {a : Addr} {w : Obj} {kvs : List (Key × V)} {ks : List Key} {ds : List D} : S a = some (.frz w (.dK kvs)) → ks = kvs.map (·.1) → RpA K cm S (kvs.map (·.2)) ds → Rp K cm S (.ref a) (.dk ks ds)
  | dt {a : Addr} {w : Obj} {kvs : List (List Key × V)} {ks : List (List Key)} {ds : List D} : S a = some (.frz w (.dT kvs)) → ks = kvs.map (·.1) → RpA K cm S (kvs.map (·.2)) ds → Rp K cm S (.ref a) (.dt ks ds)
  | dn {a p : Addr} {w ob : Obj} {es : List (NestedKey × Addr × V)} {ks ds : List D} : S a = some (.frz w (.ext (dnP p ob es))) → NkOk es ks → RpA K cm S (es.map fun e => .ref e.2.1) ks → RpA K cm S (es.map (·.2.2)) ds → Rp K cm S (.ref a) (.dn ks ds)
  | obj {a C dx : Addr} {c : Str} {fs : List (Str × V)} {ns : List Str} {ds : List D} : cm c = some C → S a = some (.ins C dx fs) → ns = fs.map (·.1) → RpA K cm S (fs.map (·.2)) ds → Rp K cm S (.ref a) (.obj c ns ds)
inductive RpA (K : PySem.W.Frag) (cm : CM) (S : Hp) : List V → List D → Prop
  | nil : RpA K cm S [] []
  | cons {v : V} {vs : List V} {d : D} {ds : List D} : Rp K cm S v d → RpA K cm S vs ds → RpA K cm S (v :: vs) (d :: ds)
end
section
variable {K : PySem.W.Frag} {cm : CM} {S S' : Hp}
mutual
theorem Rp.mono (e : Ex S S') : ∀ {v : V} {d : D}, Rp K cm S v d → Rp K cm S' v d
  | _, .non, h => by cases h; exact .non
  | _, .bl _, h => by cases h; exact .bl _
  | _, .int _, h => by cases h; exact .int _
  | _, .str _, h => by cases h; exact .str _
  | _, .lst ds, h => by cases h with | lst q r => exact .lst (e _ _ q) (RpA.mono e r)
  | _, .fz ds, h => by cases h with | fz q r => exact .fz (e.l q) (RpA.mono e r)
  | _, .tup ds, h => by cases h with | tup q r => exact .tup (e _ _ q) (RpA.mono e r)
  | _, .kt ds, h => by cases h with | kt q r => exact .kt (e.t q) (RpA.mono e r)
  | _, .dk _ ds, h => by cases h with | dk q k r => exact .dk (e _ _ q) k (RpA.mono e r)
  | _, .dt _ ds, h => by cases h with | dt q k r => exact .dt (e _ _ q) k (RpA.mono e r)
  | _, .dn ks ds, h => by cases h with | dn q k r1 r2 => exact .dn (e _ _ q) k (RpA.mono e r1) (RpA.mono e r2)
  | _, .obj _ _ ds, h => by cases h with | obj c q k r => exact .obj c (e _ _ q) k (RpA.mono e r)
theorem RpA.mono (e : Ex S S') : ∀ {vs : List V} {ds : List D}, RpA K cm S vs ds → RpA K cm S' vs ds
  | _, [], h => by cases h; exact .nil
  | _, d :: ds, h => by cases h with | cons a r => exact .cons (Rp.mono e a) (RpA.mono e r)
end
theorem RpA.length : ∀ {vs : List V} {ds : List D}, RpA K cm S vs ds → vs.length = ds.length
  | _, _, .nil => rfl
  | _, _, .cons _ r => by simp [RpA.length r]
theorem RpA.get : ∀ {vs : List V} {ds : List D} {i : Nat} {d : D}, RpA K cm S vs ds → ds[i]? = some d → ∃ v, vs[i]? = some v ∧ Rp K cm S v d
  | _, _, _, _, .nil, e => by simp at e
  | _, _, 0, _, .cons h _, e => by simp at e; subst e; exact ⟨_, by simp, h⟩
  | _, _, i + 1, d, .cons _ r, e => by
    obtain ⟨v, h1, h2⟩ := RpA.get (i := i) (d := d) r (by simpa using e)
    exact ⟨v, by simpa using h1, h2⟩
theorem RpA.getV : ∀ {vs : List V} {ds : List D} {i : Nat} {v : V}, RpA K cm S vs ds → vs[i]? = some v → ∃ d, ds[i]? = some d ∧ Rp K cm S v d
  | _, _, _, _, .nil, e => by simp at e
  | _, _, 0, _, .cons h _, e => by simp at e; subst e; exact ⟨_, by simp, h⟩
  | _, _, i + 1, v, .cons _ r, e => by
    obtain ⟨d, h1, h2⟩ := RpA.getV (i := i) (v := v) r (by simpa using e)
    exact ⟨d, by simpa using h1, h2⟩
theorem RpA.app : ∀ {vs us : List V} {ds es : List D}, RpA K cm S vs ds → RpA K cm S us es → RpA K cm S (vs ++ us) (ds ++ es)
  | _, _, _, _, .nil, s => s
  | _, _, _, _, .cons h r, s => .cons h (RpA.app r s)
theorem RpA.one {v : V} {d : D} (h : Rp K cm S v d) : RpA K cm S [v] [d] := .cons h .nil
theorem RpA.take : ∀ {vs : List V} {ds : List D} (n : Nat), RpA K cm S vs ds → RpA K cm S (vs.take n) (ds.take n)
  | _, _, 0, _ => .nil
  | _, _, _ + 1, .nil => .nil
  | _, _, n + 1, .cons h r => .cons h (RpA.take n r)
theorem RpA.drop : ∀ {vs : List V} {ds : List D} (n : Nat), RpA K cm S vs ds → RpA K cm S (vs.drop n) (ds.drop n)
  | _, _, 0, r => r
  | _, _, _ + 1, .nil => .nil
  | _, _, n + 1, .cons _ r => RpA.drop n r
theorem RpA.set {v : V} {d : D} (h : Rp K cm S v d) : ∀ {vs : List V} {ds : List D} (i : Nat), RpA K cm S vs ds → RpA K cm S (vs.set i v) (ds.set i d)
  | _, _, _, .nil => .nil
  | _, _, 0, .cons _ r => .cons h r
  | _, _, i + 1, .cons q r => .cons q (RpA.set h i r)
theorem RpA.reverse : ∀ {vs : List V} {ds : List D}, RpA K cm S vs ds → RpA K cm S vs.reverse ds.reverse
  | _, _, .nil => .nil
  | _, _, .cons h r => by rw [List.reverse_cons, List.reverse_cons]; exact (RpA.reverse r).app (.one h)
end
/-- the content of a mutable object stands for the data, its parts at S -/
inductive RpO (K : PySem.W.Frag) (cm : CM) (S : Hp) : HO → D → Prop
  | lst {xs : List V} {ds : List D} : RpA K cm S xs ds → RpO K cm S (.lst xs) (.lst ds)
  | dk {kvs : List (Key × V)} {ks : List Key} {ds : List D} : ks = kvs.map (·.1) → RpA K cm S (kvs.map (·.2)) ds → RpO K cm S (.dK kvs) (.dk ks ds)
  | dt {kvs : List (List Key × V)} {ks : List (List Key)} {ds : List D} : ks = kvs.map (·.1) → RpA K cm S (kvs.map (·.2)) ds → RpO K cm S (.dT kvs) (.dt ks ds)
  | dn {p : Addr} {ob : Obj} {es : List (NestedKey × Addr × V)} {ks ds : List D} : NkOk es ks → RpA K cm S (es.map fun e => .ref e.2.1) ks → RpA K cm S (es.map (·.2.2)) ds → RpO K cm S (.ext (dnP p ob es)) (.dn ks ds)
  | obj {C dx : Addr} {c : Str} {fs : List (Str × V)} {ns : List Str} {ds : List D} : cm c = some C → ns = fs.map (·.1) → RpA K cm S (fs.map (·.2)) ds → RpO K cm S (.ins C dx fs) (.obj c ns ds)
theorem RpO.mono {K : PySem.W.Frag} {cm : CM} {S S' : Hp} (e : Ex S S') {o : HO} {d : D} (h : RpO K cm S o d) : RpO K cm S' o d := by
  cases h with
  | lst r => exact .lst (r.mono e)
  | dk k r => exact .dk k (r.mono e)
  | dt k r => exact .dt k (r.mono e)
  | dn k r1 r2 => exact .dn k (r1.mono e) (r2.mono e)
  | obj c k r => exact .obj c k (r.mono e)
def isDct : D → Bool
  | .dk _ _ => true
  | .dt _ _ => true
  | .dn _ _ => true
  | _ => false
theorem RpO.pub {K : PySem.W.Frag} {cm : CM} {S : Hp} {o : HO} {d : D} {p : Addr} (h : RpO K cm S o d) (nd : isDct d = false) (hp : S p = o) : Rp K cm S (.ref p) d := by
  cases h with
  | lst r => exact .lst hp r
  | dk k r => cases nd
  | dt k r => cases nd
  | dn k r1 r2 => cases nd
  | obj c k r => exact .obj c hp k r
theorem RpO.pubD {K : PySem.W.Frag} {cm : CM} {S : Hp} {o : HO} {d : D} {p : Addr} {w : Obj} (h : RpO K cm S o d) (nd : isDct d = true) (hp : S p = some (.frz w o)) : Rp K cm S (.ref p) d ∧ Mut (some o) := by
  cases h with
  | lst r => cases nd
  | dk k r => exact ⟨.dk hp k r, trivial⟩
  | dt k r => exact ⟨.dt hp k r, trivial⟩
  | dn k r1 r2 => exact ⟨.dn hp k r1 r2, trivial⟩
  | obj c k r => cases nd
theorem RpO.mut {K : PySem.W.Frag} {cm : CM} {S : Hp} {o : HO} {d : D} (h : RpO K cm S o d) : Mut (some o) := by
  cases h <;> trivial
/-- what is no table, no code object -/
theorem RpO.nt {K : PySem.W.Frag} {cm : CM} {S : Hp} {o : HO} {d : D} (h : RpO K cm S o d) : ∀ ps, o ≠ .tbl ps := fun ps z => by
  subst z; cases h
theorem code_ne_dn {cA p : Addr} {q : Str} {ob : Obj} {es : List (NestedKey × Addr × V)} : LamX.CodeO cA q ≠ .ext (dnP p ob es) := fun z => by
  have z : (fun h : Heap => ∃ (oc : Obj) (vs : Array Value) (t : Tok), h.get? cA = some oc ∧ oc.data = .fields vs ∧ vs[1]? = some (.str q t)) = dnP p ob es := by
    unfold LamX.CodeO at z
    exact HO.ext.inj z
  let oc : Obj := { cls := .none, data := .fields #[.none, .str q 0] }
  let hp : Heap := ⟨Array.replicate (cA + 1) oc, {}⟩
  have at_ : ∀ b x, hp.get? b = some x → x = oc := fun b x e => by
    by_cases hb : b < cA + 1
    · have g : hp.get? b = some oc := by
        show (match (Array.replicate (cA + 1) oc)[b]? with | some ⟨_, _, .freed, _⟩ => none | o => o) = some oc
        rw [Array.getElem?_replicate, if_pos hb]
      rw [g] at e
      exact (Option.some.inj e).symm
    · have g : hp.get? b = none := by
        show (match (Array.replicate (cA + 1) oc)[b]? with | some ⟨_, _, .freed, _⟩ => none | o => o) = none
        rw [Array.getElem?_replicate, if_neg hb]
      rw [g] at e; cases e
  have g : hp.get? cA = some oc := by
    show (match (Array.replicate (cA + 1) oc)[cA]? with | some ⟨_, _, .freed, _⟩ => none | o => o) = some oc
    rw [Array.getElem?_replicate, if_pos (Nat.lt_succ_self _)]
  have k := (congrFun z hp).mp ⟨oc, #[.none, .str q 0], 0, g, rfl, rfl⟩
  obtain ⟨_, xs, o, eps, ep, _, e, _, hd, _⟩ := k
  rw [at_ p o e] at hd
  cases hd
theorem RpO.nc {K : PySem.W.Frag} {cm : CM} {S : Hp} {cA : Addr} {q : Str} {d : D} (h : RpO K cm S (LamX.CodeO cA q) d) : False := by
  generalize e : LamX.CodeO cA q = o at h
  cases h with
  | dn k r1 r2 => exact code_ne_dn e
  | _ => unfold LamX.CodeO at e; cases e
/-- the tables of code objects that H tells stand in H', too -/
def lamN : Str := "price_table.<locals>.<lambda>"
def Tk (H H' : Hp) : Prop := ∀ P, LamX.TabS H P lamN → LamX.TabS H' P lamN
theorem Tk.refl {H : Hp} : Tk H H := fun _ h => h
theorem Tk.trans {H H1 H2 : Hp} (a : Tk H H1) (b : Tk H1 H2) : Tk H H2 := fun P h => b P (a P h)
theorem Tk.new {H : Hp} {p : Addr} {o : HO} (n : H p = none) : Tk H (upd H p o) := fun _ h => h.ext fun b u e => by
  rw [upd_ne (ne_of_none e n)]; exact e
/-- no table, no code object -/
def Pl (o : HO) : Prop := (∀ ps, o ≠ .tbl ps) ∧ ∀ cA q, o ≠ LamX.CodeO cA q
theorem Pl.lst {xs : List V} : Pl (.lst xs) := ⟨fun _ z => (by cases z), fun _ _ z => (by unfold LamX.CodeO at z; cases z)⟩
theorem Pl.tup {xs : List V} : Pl (.tup xs) := ⟨fun _ z => (by cases z), fun _ _ z => (by unfold LamX.CodeO at z; cases z)⟩
theorem Pl.dK {kvs : List (Key × V)} : Pl (.dK kvs) := ⟨fun _ z => (by cases z), fun _ _ z => (by unfold LamX.CodeO at z; cases z)⟩
theorem Pl.dT {kvs : List (List Key × V)} : Pl (.dT kvs) := ⟨fun _ z => (by cases z), fun _ _ z => (by unfold LamX.CodeO at z; cases z)⟩
theorem Pl.ins {C dx : Addr} {fs : List (Str × V)} : Pl (.ins C dx fs) := ⟨fun _ z => (by cases z), fun _ _ z => (by unfold LamX.CodeO at z; cases z)⟩
theorem Pl.ext {p : Addr} {ob : Obj} {es : List (NestedKey × Addr × V)} : Pl (.ext (dnP p ob es)) := ⟨fun _ z => (by cases z), fun _ _ z => code_ne_dn z.symm⟩
theorem RpO.pl {K : PySem.W.Frag} {cm : CM} {S : Hp} {o : HO} {d : D} (h : RpO K cm S o d) : Pl o := ⟨h.nt, fun cA q z => by subst z; exact h.nc⟩
theorem Tk.at {H : Hp} {p : Addr} {o o' : HO} (h : H p = some o) (r : Pl o) : Tk H (upd H p o') := fun P ⟨ps, h1, h2, h3⟩ => by
  refine ⟨ps, ?_, h2, fun pos cv hc => ?_⟩
  · rw [upd_ne fun z => ?_]
    · exact h1
    · rw [z, h] at h1
      exact r.1 ps (Option.some.inj h1)
  · obtain ⟨cA, e1, e2⟩ := h3 pos cv hc
    refine ⟨cA, e1, ?_⟩
    rw [upd_ne fun z => ?_]
    · exact e2
    · subst z
      rw [h] at e2
      exact r.2 _ _ (Option.some.inj e2)
theorem Tk.sub {H H' : Hp} (k : ∀ b u, H b = some u → H' b = some u) : Tk H H' := fun _ h => h.ext k
theorem Tk.butP {H H' : Hp} {O : Addr → Prop} (h : ∀ a, O a → ∃ o, H a = some o ∧ Pl o) (k : ∀ b u, ¬ O b → H b = some u → H' b = some u) : Tk H H' := fun P ⟨ps, h1, h2, h3⟩ => by
  refine ⟨ps, k _ _ (fun z => ?_) h1, h2, fun pos cv hc => ?_⟩
  · obtain ⟨o, e, r⟩ := h P z
    rw [h1] at e
    exact r.1 ps (Option.some.inj e).symm
  · obtain ⟨cA, e1, e2⟩ := h3 pos cv hc
    refine ⟨cA, e1, k _ _ (fun z => ?_) e2⟩
    obtain ⟨o, e, r⟩ := h cA z
    rw [e2] at e
    exact r.2 _ _ (Option.some.inj e).symm
theorem Tk.but {H H' : Hp} {A : List Addr} (h : ∀ a ∈ A, ∃ o, H a = some o ∧ Pl o) (k : ∀ b u, b ∉ A → H b = some u → H' b = some u) : Tk H H' := fun P ⟨ps, h1, h2, h3⟩ => by
  refine ⟨ps, k _ _ (fun z => ?_) h1, h2, fun pos cv hc => ?_⟩
  · obtain ⟨o, e, r⟩ := h P z
    rw [h1] at e
    exact r.1 ps (Option.some.inj e).symm
  · obtain ⟨cA, e1, e2⟩ := h3 pos cv hc
    refine ⟨cA, e1, k _ _ (fun z => ?_) e2⟩
    obtain ⟨o, e, r⟩ := h cA z
    rw [e2] at e
    exact r.2 _ _ (Option.some.inj e).symm
theorem Tk.mut {K : PySem.W.Frag} {cm : CM} {S H : Hp} {p : Addr} {o o' : HO} {d : D} (h : H p = some o) (r : RpO K cm S o d) : Tk H (upd H p o') := fun P ⟨ps, h1, h2, h3⟩ => by
  refine ⟨ps, ?_, h2, fun pos cv hc => ?_⟩
  · rw [upd_ne fun z => ?_]
    · exact h1
    · rw [z, h] at h1
      exact r.nt ps (Option.some.inj h1)
  · obtain ⟨cA, e1, e2⟩ := h3 pos cv hc
    refine ⟨cA, e1, ?_⟩
    rw [upd_ne fun z => ?_]
    · exact e2
    · subst z
      rw [h] at e2
      cases e2
      exact r.nc
/-- not there, or a tuple -/
def Old (o : Option HO) : Prop := o = none ∨ ∃ xs, o = some (.tup xs)
theorem Old.back {H H' : Hp} (e : Ex H H') {a : Addr} (h : Old (H' a)) : Old (H a) := by
  cases q : H a with
  | none => exact .inl rfl
  | some u =>
    rcases h with h | ⟨xs, h⟩
    · exact ((e a u q).ne h).elim
    · have z := e a u q
      cases u with
      | tup ys => exact .inr ⟨ys, rfl⟩
      | tbl ps =>
        obtain ⟨ps1, z⟩ := z
        rw [z] at h; cases h
      | _ => have z : H' a = _ := z; rw [z] at h; cases h
theorem Old.not {H : Hp} {a : Addr} {o : HO} (h : Old (H a)) (q : H a = some o) : ∃ xs, o = .tup xs := by
  rw [q] at h
  rcases h with h | ⟨xs, h⟩
  · cases h
  · cases h; exact ⟨xs, rfl⟩
/-- S is the part of H that stays; from (S, H) to (S', H') nothing known has changed -/
structure Fwd (S H S' H' : Hp) : Prop where
  s : Ex S S'
  h : Ex H H'
  sub : Ex S' H'
  new : ∀ a o, S' a = some o → S a = none → Old (H a)
  tb : Tk H H'
theorem Fwd.refl {S H : Hp} (e : Ex S H) : Fwd S H S H := ⟨Ex.refl, Ex.refl, e, fun a o h n => (by rw [n] at h; cases h), Tk.refl⟩
theorem Fwd.trans {S H S1 H1 S2 H2 : Hp} (a : Fwd S H S1 H1) (b : Fwd S1 H1 S2 H2) : Fwd S H S2 H2 :=
  ⟨a.s.trans b.s, a.h.trans b.h, b.sub, fun p o h n => (by
    cases e : S1 p with
    | some u => exact a.new p u e n
    | none => exact (b.new p o h e).back a.h), a.tb.trans b.tb⟩
theorem Fwd.both {S H : Hp} {p : Addr} {o : HO} (e : Ex S H) (n : H p = none) : Fwd S H (upd S p o) (upd H p o) :=
  ⟨Ex.new (e.nn n), Ex.new n, e.both, fun a u h m => (by
    by_cases ha : a = p
    · subst ha; exact .inl n
    · rw [upd_ne ha, m] at h; cases h), Tk.new n⟩
theorem Fwd.heap {S H : Hp} {p : Addr} {o : HO} (e : Ex S H) (n : H p = none) : Fwd S H S (upd H p o) :=
  ⟨Ex.refl, Ex.new n, e.put (e.nn n), fun a u h m => (by rw [m] at h; cases h), Tk.new n⟩
/-- a new object known to H' alone becomes one that stays -/
theorem Fwd.pub {S H S' H' : Hp} {p : Addr} {o : HO} (f : Fwd S H S' H') (n : H p = none) (ns : S' p = none) (h : H' p = some o) : Fwd S H (upd S' p o) H' :=
  ⟨f.s.trans (Ex.new ns), f.h, fun a u ha => (by
    by_cases hh : a = p
    · subst hh; rw [upd_same] at ha; exact .mk (by rw [h]; exact ha)
    · rw [upd_ne hh] at ha; exact f.sub a u ha), fun a u ha m => (by
    by_cases hh : a = p
    · subst hh; exact .inl n
    · rw [upd_ne hh] at ha; exact f.new a u ha m), f.tb⟩
inductive Res (α : Type) where
  | ok (a : α)
  | err (c : Str) (ns : List Str) (vs : List D)
  | bad
@[inline] def Res.bind {α β : Type} : Res α → (α → Res β) → Res β
  | .ok a, k => k a
  | .err c ns vs, _ => .err c ns vs
  | .bad, _ => .bad
instance : Monad Res where
  pure := Res.ok
  bind := Res.bind
abbrev Rho := List (Option D)
/-- the end of a statement -/
inductive SR where
  | nx (r : Rho)
  | rt (d : D)
  | bk (r : Rho)
  | ct (r : Rho)
  | er (r : Rho) (c : Str) (ns : List Str) (vs : List D)
  | bad
inductive Ow where
  | v | o | b | w
  | s (pre : List Addr)
  | x (a C dd : Addr)
  | i (a : Addr)
  | j (a : Addr) (fs : List (Str × V))
def isO : Ow → Prop
  | .o => True
  | .i _ => True
  | _ => False
structure Cf where
  K : PySem.W.Frag
  cm : CM
  W : WX
  ge : Option (List Ow)
  rm : Bool
  tb : Addr → Str → Prop
/-- a value, or a mutable object read at H whose parts stay -/
def RpB (K : PySem.W.Frag) (cm : CM) (S H : Hp) (v : V) (d : D) : Prop :=
  Rp K cm S v d ∨ ∃ p ho, v = .ref p ∧ H p = some ho ∧ RpO K cm S ho d
section
variable {K : PySem.W.Frag} {cm : CM} {S S' H H' : Hp} {v : V} {d : D}
theorem RpB.mono (h : RpB K cm S H v d) (e : Ex S S') (e' : Ex H H') : RpB K cm S' H' v d := by
  rcases h with h | ⟨p, ho, h1, h2, h3⟩
  · exact .inl (h.mono e)
  · exact .inr ⟨p, ho, h1, (e' _ _ h2).of h3.nt, h3.mono e⟩
theorem RpB.list {ds : List D} (h : RpB K cm S H v (.lst ds)) (e : Ex S H) : ∃ p xs, v = .ref p ∧ H p = some (.lst xs) ∧ RpA K cm S xs ds := by
  rcases h with h | ⟨p, ho, h1, h2, h3⟩
  · cases h with | lst q r => exact ⟨_, _, rfl, e _ _ q, r⟩
  · cases h3 with | lst r => exact ⟨p, _, h1, h2, r⟩
theorem RpB.int {i : Int} (h : RpB K cm S H v (.int i)) : v = .int i := by
  rcases h with h | ⟨p, ho, h1, h2, h3⟩
  · cases h; rfl
  · cases h3
theorem RpB.bl {b : Bool} (h : RpB K cm S H v (.bl b)) : v = .bl b := by
  rcases h with h | ⟨p, ho, h1, h2, h3⟩
  · cases h; rfl
  · cases h3
theorem RpB.non (h : RpB K cm S H v .non) : v = .non := by
  rcases h with h | ⟨p, ho, h1, h2, h3⟩
  · cases h; rfl
  · cases h3
theorem RpB.str {z : Str} (h : RpB K cm S H v (.str z)) : v = .str z := by
  rcases h with h | ⟨p, ho, h1, h2, h3⟩
  · cases h; rfl
  · cases h3
theorem RpB.tup {ds : List D} (h : RpB K cm S H v (.tup ds)) (e : Ex S H) : ∃ p xs, v = .ref p ∧ SqT K H p xs ∧ RpA K cm S xs ds ∧ S p = some (.tup xs) := by
  rcases h with h | ⟨p, ho, h1, h2, h3⟩
  · cases h with | tup q r => exact ⟨_, _, rfl, .inl (.inl (e _ _ q)), r, q⟩
  · cases h3
theorem RpB.kt {ds : List D} (h : RpB K cm S H v (.kt ds)) (e : Ex S H) : ∃ p xs, v = .ref p ∧ SqT K H p xs ∧ RpA K cm S xs ds ∧ SqT K S p xs := by
  rcases h with h | ⟨p, ho, h1, h2, h3⟩
  · cases h with | kt q r => exact ⟨_, _, rfl, e.t q, r, q⟩
  · cases h3
theorem RpB.fz {ds : List D} (h : RpB K cm S H v (.fz ds)) (e : Ex S H) : ∃ p xs, v = .ref p ∧ SqL K H p xs ∧ RpA K cm S xs ds := by
  rcases h with h | ⟨p, ho, h1, h2, h3⟩
  · cases h with | fz q r => exact ⟨_, _, rfl, e.l q, r⟩
  · cases h3
theorem RpB.dk {ks : List Key} {ds : List D} (h : RpB K cm S H v (.dk ks ds)) (e : Ex S H) : ∃ p kvs, v = .ref p ∧ Rd H p (.dK kvs) ∧ ks = kvs.map (·.1) ∧ RpA K cm S (kvs.map (·.2)) ds := by
  rcases h with h | ⟨p, ho, h1, h2, h3⟩
  · cases h with | dk q k r => exact ⟨_, _, rfl, .inr ⟨_, e _ _ q⟩, k, r⟩
  · cases h3 with | dk k r => exact ⟨p, _, h1, .inl h2, k, r⟩
theorem RpB.dt {ks : List (List Key)} {ds : List D} (h : RpB K cm S H v (.dt ks ds)) (e : Ex S H) : ∃ p kvs, v = .ref p ∧ Rd H p (.dT kvs) ∧ ks = kvs.map (·.1) ∧ RpA K cm S (kvs.map (·.2)) ds := by
  rcases h with h | ⟨p, ho, h1, h2, h3⟩
  · cases h with | dt q k r => exact ⟨_, _, rfl, .inr ⟨_, e _ _ q⟩, k, r⟩
  · cases h3 with | dt k r => exact ⟨p, _, h1, .inl h2, k, r⟩
theorem RpB.dn {ks ds : List D} (h : RpB K cm S H v (.dn ks ds)) (e : Ex S H) : ∃ q p ob es, v = .ref q ∧ Rd H q (.ext (dnP p ob es)) ∧ NkOk es ks ∧ RpA K cm S (es.map fun e => .ref e.2.1) ks ∧ RpA K cm S (es.map (·.2.2)) ds := by
  rcases h with h | ⟨p, ho, h1, h2, h3⟩
  · cases h with | dn q k r1 r2 => exact ⟨_, _, _, _, rfl, .inr ⟨_, e _ _ q⟩, k, r1, r2⟩
  · cases h3 with | dn k r1 r2 => exact ⟨p, _, _, _, h1, .inl h2, k, r1, r2⟩
theorem RpB.obj {n : Str} {ns : List Str} {ds : List D} (h : RpB K cm S H v (.obj n ns ds)) (e : Ex S H) : ∃ p C dx fs, v = .ref p ∧ cm n = some C ∧ H p = some (.ins C dx fs) ∧ ns = fs.map (·.1) ∧ RpA K cm S (fs.map (·.2)) ds := by
  rcases h with h | ⟨p, ho, h1, h2, h3⟩
  · cases h with | obj c q k r => exact ⟨_, _, _, _, rfl, c, e _ _ q, k, r⟩
  · cases h3 with | obj c k r => exact ⟨p, _, _, _, h1, c, h2, k, r⟩
end
/-- a value, or one of the own lists at the places A -/
def RmV (K : PySem.W.Frag) (cm : CM) (A : List Addr) (S : Hp) (v : V) (d : D) : Prop := Rp K cm S v d ∨ ∃ k a, d = .own k ∧ A[k]? = some a ∧ v = .ref a
def RmA (K : PySem.W.Frag) (cm : CM) (A : List Addr) (S : Hp) (vs : List V) (ds : List D) : Prop := vs.length = ds.length ∧ ∀ (i : Nat) v d, vs[i]? = some v → ds[i]? = some d → RmV K cm A S v d
def SlotOk (c : Cf) (H0 S H : Hp) : Ow → V → D → Prop
  | .v, v, d => Rp c.K c.cm S v d
  | .o, v, d => ∃ p ho, v = .ref p ∧ H p = some ho ∧ S p = none ∧ H0 p = none ∧ RpO c.K c.cm S ho d
  | .i a, v, d => v = .ref a ∧ ∃ p ho, v = .ref p ∧ H p = some ho ∧ S p = none ∧ H0 p = none ∧ RpO c.K c.cm S ho d
  | .b, v, d => RpB c.K c.cm S H0 v d
  | .j a fs, v, d => v = .ref a ∧ ∃ C dx n, c.cm n = some C ∧ H0 a = some (.ins C dx fs) ∧ d = .obj n [] []
  | .s _, v, d => ∃ k M, d = .st k M
  | .w, v, d => ∃ k, d = .own k
  | .x a C dd, v, d => v = .ref a ∧ ∃ n ns ds fs, d = .obj n ns ds ∧ c.cm n = some C ∧ S dd = some (.xd fs) ∧ ns = fs.map (·.1) ∧ RpA c.K c.cm S (fs.map (·.2)) ds
abbrev kd (G : List Ow) (i : Nat) : Ow := G.getD i .v
/-- the own lists that stand in each other, at the places A -/
structure StoOk (K : PySem.W.Frag) (cm : CM) (tb : Addr → Str → Prop) (H0 : Hp) (G : List Ow) (S H : Hp) (σ : St) (r : Rho) (A : List Addr) : Prop where
  nod : A.Nodup
  out : ∀ a ∈ A, S a = none ∧ H0 a = none ∧ ∃ xs, H a = some (.lst xs)
  own : ∀ i d p, r[i]? = some (some d) → isO (kd G i) → σ[i]? = some (some (.ref p)) → p ∉ A
  st : ∀ i k M P, kd G i = .s P → r[i]? = some (some (.st k M)) → (P <+: A ∧ A.length = M.length) ∧ (∃ a, A[k]? = some a ∧ σ[i]? = some (some (.ref a))) ∧ ∀ (n : Nat) row, M[n]? = some row → ∃ a xs, A[n]? = some a ∧ H a = some (.lst xs) ∧ RmA K cm A S xs row
  al : ∀ i k, kd G i = .w → r[i]? = some (some (.own k)) → ∃ a, A[k]? = some a ∧ σ[i]? = some (some (.ref a))
  tab : ∀ P q, tb P q → LamX.TabS H0 P q
theorem RmA.mono {K : PySem.W.Frag} {cm : CM} {A : List Addr} {S S' : Hp} {vs : List V} {ds : List D} (h : RmA K cm A S vs ds) (e : Ex S S') : RmA K cm A S' vs ds :=
  ⟨h.1, fun i v d hv hd => (h.2 i v d hv hd).imp (fun z => z.mono e) id⟩
theorem StoOk.sub {K : PySem.W.Frag} {cm : CM} {tb : Addr → Str → Prop} {H0 S H S' H' : Hp} {G G' : List Ow} {σ σ' : St} {r r' : Rho} {A : List Addr} (h : StoOk K cm tb H0 G S H σ r A) (hS : ∀ a ∈ A, S' a = none) (hH : ∀ a ∈ A, H' a = H a) (eS : Ex S S')
    (ho : ∀ i d p, r'[i]? = some (some d) → isO (kd G' i) → σ'[i]? = some (some (.ref p)) → p ∉ A)
    (hs : ∀ i d, (∃ P, kd G' i = .s P) ∨ kd G' i = .w → r'[i]? = some (some d) → kd G i = kd G' i ∧ r[i]? = some (some d) ∧ σ'[i]? = σ[i]?) : StoOk K cm tb H0 G' S' H' σ' r' A where
  nod := h.nod
  tab := h.tab
  out := fun a ha => by
    obtain ⟨_, h2, h3⟩ := h.out a ha
    exact ⟨hS a ha, h2, by rw [hH a ha]; exact h3⟩
  own := ho
  st := fun i k M P hi hr => by
    obtain ⟨a1, a2, a3⟩ := hs i _ (.inl ⟨P, hi⟩) hr
    obtain ⟨b1, b2, b3⟩ := h.st i k M P (a1.trans hi) a2
    refine ⟨b1, by rw [a3]; exact b2, fun n row hn => ?_⟩
    obtain ⟨a, xs, c1, c2, c3⟩ := b3 n row hn
    exact ⟨a, xs, c1, by rw [hH a (List.mem_of_getElem? c1)]; exact c2, c3.mono eS⟩
  al := fun i k hi hr => by
    obtain ⟨a1, a2, a3⟩ := hs i _ (.inr hi) hr
    rw [a3]
    exact h.al i k (a1.trans hi) a2
theorem StoOk.go {K : PySem.W.Frag} {cm : CM} {tb : Addr → Str → Prop} {H0 S H S' H' : Hp} {G : List Ow} {σ : St} {r : Rho} {A : List Addr} (h : StoOk K cm tb H0 G S H σ r A) (f : Fwd S H S' H') : StoOk K cm tb H0 G S' H' σ r A :=
  h.sub (fun a ha => by
    obtain ⟨h1, _, xs, h3⟩ := h.out a ha
    cases e : S' a with
    | none => rfl
    | some u => obtain ⟨ys, z⟩ := (f.new a u e h1).not h3; cases z) (fun a ha => by
    obtain ⟨_, _, xs, h3⟩ := h.out a ha
    rw [h3]; exact f.h a _ h3) f.s h.own fun i d hi hr => ⟨rfl, hr, rfl⟩
/-- no such lists -/
theorem StoOk.nil {K : PySem.W.Frag} {cm : CM} {tb : Addr → Str → Prop} {H0 S H : Hp} {G : List Ow} {σ : St} {r : Rho} (h : ∀ i d, r[i]? = some (some d) → (∀ P, kd G i ≠ .s P) ∧ kd G i ≠ .w) (ht : ∀ P q, tb P q → LamX.TabS H0 P q) : StoOk K cm tb H0 G S H σ r [] where
  nod := List.nodup_nil
  tab := ht
  out := fun a ha => by cases ha
  own := fun i d p _ _ _ hp => by cases hp
  st := fun i k M P hi hr => absurd hi ((h i _ hr).1 P)
  al := fun i k hi hr => absurd hi (h i _ hr).2
structure EnvOk (c : Cf) (S0 H0 : Hp) (G : List Ow) (S H : Hp) (σ : St) (r : Rho) : Prop where
  fwd : Fwd S0 H0 S H
  len : σ.length = r.length
  slot : ∀ i d, r[i]? = some (some d) → ∃ v, σ[i]? = some (some v) ∧ SlotOk c H0 S H (kd G i) v d
  sep : ∀ i j d e p, r[i]? = some (some d) → r[j]? = some (some e) → isO (kd G i) → isO (kd G j) → σ[i]? = some (some (.ref p)) → σ[j]? = some (some (.ref p)) → i = j
  sto : ∃ A, StoOk c.K c.cm c.tb H0 G S H σ r A
section
variable {c : Cf} {S0 H0 S H S' H' : Hp} {G : List Ow} {σ : St} {r : Rho}
theorem SlotOk.o_of {k : Ow} {v : V} {d : D} (h : SlotOk c H0 S H k v d) (q : isO k) : ∃ p ho, v = .ref p ∧ H p = some ho ∧ S p = none ∧ H0 p = none ∧ RpO c.K c.cm S ho d := by
  cases k with
  | o => exact h
  | i a => exact h.2
  | _ => cases q
theorem SlotOk.mono {k : Ow} {v : V} {d : D} (h : SlotOk c H0 S H k v d) (f : Fwd S H S' H') : SlotOk c H0 S' H' k v d := by
  cases k with
  | v => exact Rp.mono f.s h
  | o =>
    obtain ⟨p, ho, h1, h2, h3, h4, h5⟩ := h
    refine ⟨p, ho, h1, (f.h p _ h2).of h5.nt, ?_, h4, h5.mono f.s⟩
    cases e : S' p with
    | none => rfl
    | some u => obtain ⟨ys, z⟩ := (f.new p u e h3).not h2; subst z; cases h5
  | i a =>
    obtain ⟨h0, p, ho, h1, h2, h3, h4, h5⟩ := h
    refine ⟨h0, p, ho, h1, (f.h p _ h2).of h5.nt, ?_, h4, h5.mono f.s⟩
    cases e : S' p with
    | none => rfl
    | some u => obtain ⟨ys, z⟩ := (f.new p u e h3).not h2; subst z; cases h5
  | b => exact RpB.mono h f.s Ex.refl
  | j a fs => exact h
  | s P => exact h
  | w => exact h
  | x a C dd =>
    obtain ⟨h1, n, ns, ds, fs, h2, h3, h4, h5, h6⟩ := h
    exact ⟨h1, n, ns, ds, fs, h2, h3, f.s _ _ h4, h5, h6.mono f.s⟩
theorem EnvOk.go (e : EnvOk c S0 H0 G S H σ r) (f : Fwd S H S' H') : EnvOk c S0 H0 G S' H' σ r :=
  ⟨e.fwd.trans f, e.len, fun i d h => let ⟨v, h1, h2⟩ := e.slot i d h; ⟨v, h1, h2.mono f⟩, e.sep, let ⟨A, h⟩ := e.sto; ⟨A, h.go f⟩⟩
theorem EnvOk.ex (e : EnvOk c S0 H0 G S H σ r) : Ex S H := e.fwd.sub
theorem EnvOk.tab0 (e : EnvOk c S0 H0 G S H σ r) : ∀ P q, c.tb P q → LamX.TabS H0 P q := let ⟨_, hA⟩ := e.sto; hA.tab
/-- the tables of code objects that the def may use -/
theorem EnvOk.tab (e : EnvOk c S0 H0 G S H σ r) {P : Addr} (h : c.tb P lamN) : LamX.TabS H P lamN := e.fwd.tb P (e.tab0 P lamN h)
theorem kd_set_self (G : List Ow) (i : Nat) : kd (G.set i .v) i = .v := by
  show (G.set i .v).getD i .v = .v
  rw [List.getD_eq_getElem?_getD, List.getElem?_set]
  split
  · split <;> rfl
  · rename_i h; exact absurd rfl h
theorem kd_set_ne {G : List Ow} {i j : Nat} {k : Ow} (h : i ≠ j) : kd (G.set i k) j = kd G j := by
  show (G.set i k).getD j .v = G.getD j .v
  rw [List.getD_eq_getElem?_getD, List.getD_eq_getElem?_getD, List.getElem?_set_ne h]
theorem kd_set_o {G : List Ow} {i : Nat} {k : Ow} (h : i < G.length) : kd (G.set i k) i = k := by
  show (G.set i k).getD i .v = k
  rw [List.getD_eq_getElem?_getD, List.getElem?_set_self h]; rfl
theorem set_some {α : Type} {l : List (Option α)} {i j : Nat} {a : Option α} {b : α} (h : (l.set i a)[j]? = some (some b)) : (i = j ∧ a = some b ∧ i < l.length) ∨ (i ≠ j ∧ l[j]? = some (some b)) := by
  by_cases e : i = j
  · subst e
    rw [List.getElem?_set] at h
    rw [if_pos rfl] at h
    split at h
    · rename_i hl; exact .inl ⟨rfl, Option.some.inj h, hl⟩
    · cases h
  · rw [List.getElem?_set_ne e] at h
    exact .inr ⟨e, h⟩
/-- a slot gets a value -/
theorem EnvOk.setV (e : EnvOk c S0 H0 G S H σ r) {v : V} {d : D} (i : Nat) (h : Rp c.K c.cm S v d) : EnvOk c S0 H0 (G.set i .v) S H (σ.set i (some v)) (r.set i (some d)) := by
  refine ⟨e.fwd, by simp [e.len], fun j b hb => ?_, fun j k b b' p hj hk kj kk sj sk => ?_, let ⟨A, hA⟩ := e.sto; ⟨A, hA.sub (fun a ha => (hA.out a ha).1) (fun _ _ => rfl) Ex.refl (fun j b q hj kj sj => ?_) fun j b kj hj => ?_⟩⟩
  · rcases set_some hb with ⟨rfl, ea, hl⟩ | ⟨ne, hb⟩
    · cases ea
      exact ⟨v, by rw [List.getElem?_set_self (by rw [e.len]; exact hl)], by rw [kd_set_self]; exact h⟩
    · obtain ⟨u, h1, h2⟩ := e.slot j b hb
      exact ⟨u, by rw [List.getElem?_set_ne ne]; exact h1, by rw [kd_set_ne ne]; exact h2⟩
  · have nj : i ≠ j := fun z => by subst z; rw [kd_set_self] at kj; cases kj
    have nk : i ≠ k := fun z => by subst z; rw [kd_set_self] at kk; cases kk
    rw [List.getElem?_set_ne nj] at hj sj
    rw [List.getElem?_set_ne nk] at hk sk
    rw [kd_set_ne nj] at kj
    rw [kd_set_ne nk] at kk
    exact e.sep j k b b' p hj hk kj kk sj sk
  · have nj : i ≠ j := fun z => by subst z; rw [kd_set_self] at kj; cases kj
    rw [List.getElem?_set_ne nj] at hj sj
    rw [kd_set_ne nj] at kj
    exact hA.own j b q hj kj sj
  · have nj : i ≠ j := fun z => by subst z; rw [kd_set_self] at kj; rcases kj with ⟨_, kj⟩ | kj <;> cases kj
    rw [List.getElem?_set_ne nj] at hj
    rw [kd_set_ne nj, List.getElem?_set_ne nj]
    exact ⟨rfl, hj, rfl⟩
/-- a slot gets a new mutable object -/
theorem EnvOk.setO (e : EnvOk c S0 H0 G S H σ r) (f : Fwd S H S' H') {p : Addr} {ho : HO} {d : D} (i : Nat) (hi : i < G.length) (n : H p = none) (ns : S' p = none) (hp : H' p = some ho) (h : RpO c.K c.cm S' ho d) :
    EnvOk c S0 H0 (G.set i .o) S' H' (σ.set i (some (.ref p))) (r.set i (some d)) := by
  have e' := e.go f
  have fresh : ∀ j b, r[j]? = some (some b) → isO (kd G j) → σ[j]? ≠ some (some (.ref p)) := fun j b hb kj sj => by
    obtain ⟨u, h1, h2⟩ := e.slot j b hb
    obtain ⟨q, ho', z1, z2, _⟩ := h2.o_of kj
    rw [sj] at h1; cases h1; cases z1
    rw [n] at z2; cases z2
  refine ⟨e'.fwd, by simp [e.len], fun j b hb => ?_, fun j k b b' q hj hk kj kk sj sk => ?_, let ⟨A, hA⟩ := e.sto; ⟨A, (hA.go f).sub (fun a ha => ((hA.go f).out a ha).1) (fun _ _ => rfl) Ex.refl (fun j b q hj kj sj => ?_) fun j b kj hj => ?_⟩⟩
  · rcases set_some hb with ⟨rfl, ea, hl⟩ | ⟨ne, hb⟩
    · cases ea
      refine ⟨.ref p, by rw [List.getElem?_set_self (by rw [e.len]; exact hl)], ?_⟩
      rw [kd_set_o hi]
      exact ⟨p, ho, rfl, hp, ns, e.fwd.h.nn n, h⟩
    · obtain ⟨u, h1, h2⟩ := e'.slot j b hb
      exact ⟨u, by rw [List.getElem?_set_ne ne]; exact h1, by rw [kd_set_ne ne]; exact h2⟩
  · by_cases nj : i = j
    · by_cases nk : i = k
      · rw [← nj, nk]
      · subst nj
        exfalso
        rcases set_some sj with ⟨_, ea, _⟩ | ⟨ne, _⟩
        · cases ea
          rw [List.getElem?_set_ne nk] at hk sk
          rw [kd_set_ne nk] at kk
          exact fresh k _ hk kk sk
        · exact ne rfl
    · by_cases nk : i = k
      · subst nk
        exfalso
        rcases set_some sk with ⟨_, ea, _⟩ | ⟨ne, _⟩
        · cases ea
          rw [List.getElem?_set_ne nj] at hj sj
          rw [kd_set_ne nj] at kj
          exact fresh j _ hj kj sj
        · exact ne rfl
      · rw [List.getElem?_set_ne nj] at hj sj
        rw [List.getElem?_set_ne nk] at hk sk
        rw [kd_set_ne nj] at kj
        rw [kd_set_ne nk] at kk
        exact e.sep j k b b' q hj hk kj kk sj sk
  · rcases set_some sj with ⟨_, ea, _⟩ | ⟨nj, sj⟩
    · cases ea
      intro ha
      obtain ⟨_, _, xs, h3⟩ := hA.out p ha
      rw [n] at h3; cases h3
    · rw [List.getElem?_set_ne nj] at hj
      rw [kd_set_ne nj] at kj
      exact hA.own j b q hj kj sj
  · have nj : i ≠ j := fun z => by subst z; rw [kd_set_o hi] at kj; rcases kj with ⟨_, kj⟩ | kj <;> cases kj
    rw [List.getElem?_set_ne nj] at hj
    rw [kd_set_ne nj, List.getElem?_set_ne nj]
    exact ⟨rfl, hj, rfl⟩
/-- the own object in slot i: its place -/
theorem EnvOk.ownI (e : EnvOk c S0 H0 G S H σ r) {i : Nat} {d : D} (k : isO (kd G i)) (h : r[i]? = some (some d)) : ∃ p ho, σ[i]? = some (some (.ref p)) ∧ H p = some ho ∧ S p = none ∧ H0 p = none ∧ RpO c.K c.cm S ho d := by
  obtain ⟨v, h1, h2⟩ := e.slot i d h
  obtain ⟨p, ho, rfl, h3⟩ := h2.o_of k
  exact ⟨p, ho, h1, h3⟩
/-- the own object in slot i is changed -/
theorem EnvOk.mutI (e : EnvOk c S0 H0 G S H σ r) {i : Nat} {d d' : D} {p : Addr} {ho' : HO} (k : isO (kd G i)) (h : r[i]? = some (some d)) (hs : σ[i]? = some (some (.ref p))) (h' : RpO c.K c.cm S ho' d') :
    EnvOk c S0 H0 G S (upd H p ho') σ (r.set i (some d')) := by
  obtain ⟨q, ho, s1, s2, s3, s4, s5⟩ := e.ownI k h
  rw [hs] at s1; cases s1
  have hf : Fwd S0 H0 S (upd H p ho') := ⟨e.fwd.s, e.fwd.h.put s4, e.fwd.sub.put s3, e.fwd.new, e.fwd.tb.trans (Tk.mut s2 s5)⟩
  refine ⟨hf, by simp [e.len], fun j b hb => ?_, fun j l b b' q hj hk kj kk sj sk => ?_, let ⟨A, hA⟩ := e.sto; ⟨A, hA.sub (fun a ha => (hA.out a ha).1) (fun a ha => upd_ne fun z => hA.own i d p h k hs (z ▸ ha)) Ex.refl (fun j b q hj kj sj => ?_) fun j b kj hj => ?_⟩⟩
  · rcases set_some hb with ⟨rfl, ea, hl⟩ | ⟨ne, hb⟩
    · cases ea
      refine ⟨.ref p, hs, ?_⟩
      cases kk : kd G i with
      | o => exact ⟨p, ho', rfl, upd_same, s3, s4, h'⟩
      | i a =>
        obtain ⟨u, h1, h2⟩ := e.slot i d h
        rw [kk] at h2
        rw [hs] at h1; cases h1
        exact ⟨h2.1, p, ho', rfl, upd_same, s3, s4, h'⟩
      | _ => rw [kk] at k; cases k
    · obtain ⟨u, h1, h2⟩ := e.slot j b hb
      refine ⟨u, h1, ?_⟩
      cases kj : kd G j with
      | v => rw [kj] at h2; exact h2
      | b => rw [kj] at h2; exact h2
      | s P => rw [kj] at h2; exact h2
      | w => rw [kj] at h2; exact h2
      | j a0 fs0 => rw [kj] at h2; exact h2
      | x a C dd => rw [kj] at h2; exact h2
      | o =>
        rw [kj] at h2
        obtain ⟨q, hq, z1, z2, z3, z4, z5⟩ := h2
        subst z1
        have : q ≠ p := fun z => by subst z; exact ne (e.sep i j d b q h hb k (by rw [kj]; trivial) hs h1)
        exact ⟨q, hq, rfl, by rw [upd_ne this]; exact z2, z3, z4, z5⟩
      | i a =>
        rw [kj] at h2
        obtain ⟨z0, q, hq, z1, z2, z3, z4, z5⟩ := h2
        subst z1
        have : q ≠ p := fun z => by subst z; exact ne (e.sep i j d b q h hb k (by rw [kj]; trivial) hs h1)
        exact ⟨z0, q, hq, rfl, by rw [upd_ne this]; exact z2, z3, z4, z5⟩
  · have un : ∀ m b, (r.set i (some d'))[m]? = some (some b) → ∃ b', r[m]? = some (some b') := fun m b hm => by
      rcases set_some hm with ⟨rfl, _, _⟩ | ⟨_, hm⟩
      · exact ⟨d, h⟩
      · exact ⟨b, hm⟩
    obtain ⟨b1, hj⟩ := un j b hj
    obtain ⟨b2, hk⟩ := un l b' hk
    exact e.sep j l b1 b2 q hj hk kj kk sj sk
  · rcases set_some hj with ⟨nj, _, _⟩ | ⟨_, hj⟩
    · subst nj
      exact hA.own i d q h kj sj
    · exact hA.own j b q hj kj sj
  · rcases set_some hj with ⟨nj, _, _⟩ | ⟨_, hj⟩
    · subst nj
      rcases kj with ⟨_, kj⟩ | kj <;> (rw [kj] at k; cases k)
    · exact ⟨rfl, hj, rfl⟩
theorem isO_o {k : Ow} (h : k = .o) : isO k := by rw [h]; trivial
theorem EnvOk.own (e : EnvOk c S0 H0 G S H σ r) {i : Nat} {d : D} (k : kd G i = .o) (h : r[i]? = some (some d)) : ∃ p ho, σ[i]? = some (some (.ref p)) ∧ H p = some ho ∧ S p = none ∧ H0 p = none ∧ RpO c.K c.cm S ho d := e.ownI (isO_o k) h
theorem EnvOk.mut (e : EnvOk c S0 H0 G S H σ r) {i : Nat} {d d' : D} {p : Addr} {ho' : HO} (k : kd G i = .o) (h : r[i]? = some (some d)) (hs : σ[i]? = some (some (.ref p))) (h' : RpO c.K c.cm S ho' d') :
    EnvOk c S0 H0 G S (upd H p ho') σ (r.set i (some d')) := e.mutI (isO_o k) h hs h'
theorem StoOk.un {A : List Addr} (hA : StoOk c.K c.cm c.tb H0 G S H σ r A) (i : Nat) (hk : kd G i = .o ∨ kd G i = .v) (hS : ∀ a ∈ A, S' a = none) (eS : Ex S S') : StoOk c.K c.cm c.tb H0 (G.set i .v) S' H σ r A :=
  hA.sub hS (fun _ _ => rfl) eS (fun j b q hj kj sj => by
    have nj : i ≠ j := fun z => by subst z; rw [kd_set_self] at kj; cases kj
    rw [kd_set_ne nj] at kj
    exact hA.own j b q hj kj sj) fun j b kj hj => by
    have nj : i ≠ j := fun z => by subst z; rw [kd_set_self] at kj; rcases kj with ⟨_, kj⟩ | kj <;> cases kj
    rw [kd_set_ne nj]
    exact ⟨rfl, hj, rfl⟩
theorem EnvOk.sto_un (e : EnvOk c S0 H0 G S H σ r) (i : Nat) (hk : kd G i = .o ∨ kd G i = .v) : ∃ A, StoOk c.K c.cm c.tb H0 (G.set i .v) S H σ r A :=
  let ⟨A, hA⟩ := e.sto
  ⟨A, hA.un i hk (fun a ha => (hA.out a ha).1) Ex.refl⟩
/-- the own object in slot i becomes a value, as ho2 -/
theorem EnvOk.pubG (e : EnvOk c S0 H0 G S H σ r) (i : Nat) (k : kd G i = .o) {d : D} (h : r[i]? = some (some d)) {p : Addr} {ho ho2 : HO} (s1 : σ[i]? = some (some (.ref p))) (s2 : H p = some ho) (s3 : S p = none) (s4 : H0 p = none) (hrp : Rp c.K c.cm (upd S p ho2) (.ref p) d) :
    EnvOk c S0 H0 (G.set i .v) (upd S p ho2) (upd H p ho2) σ r := by
  have hk : kd G i = .o ∨ kd G i = .v := .inl k
  have ex : Ex S (upd S p ho2) := Ex.new s3
  have tk : Tk H (upd H p ho2) := by
    obtain ⟨q, ho1, t1, t2, _, _, t5⟩ := e.own k h
    rw [s1] at t1; cases t1
    exact Tk.mut t2 t5
  refine ⟨⟨e.fwd.s.trans ex, e.fwd.h.put s4, e.fwd.sub.both, fun a u ha m => ?_, e.fwd.tb.trans tk⟩, e.len, fun j b hb => ?_, fun j l b b' q hj hk kj kk sj sk => ?_, let ⟨A, hA⟩ := e.sto; ⟨A, ?_⟩⟩
  · by_cases hh : a = p
    · subst hh; exact .inl s4
    · rw [upd_ne hh] at ha; exact e.fwd.new a u ha m
  · by_cases ne : i = j
    · subst ne
      rw [h] at hb; cases hb
      refine ⟨.ref p, s1, ?_⟩
      rw [kd_set_self]
      exact hrp
    · obtain ⟨u, h1, h2⟩ := e.slot j b hb
      refine ⟨u, h1, ?_⟩
      rw [kd_set_ne ne]
      cases kj : kd G j with
      | v => rw [kj] at h2; exact Rp.mono ex h2
      | b => rw [kj] at h2; exact RpB.mono h2 ex Ex.refl
      | s P => rw [kj] at h2; exact h2
      | w => rw [kj] at h2; exact h2
      | j a0 fs0 => rw [kj] at h2; exact h2
      | x a C dd =>
        rw [kj] at h2
        obtain ⟨y1, n, ns, ds, fs, y2, y3, y4, y5, y6⟩ := h2
        exact ⟨y1, n, ns, ds, fs, y2, y3, ex _ _ y4, y5, y6.mono ex⟩
      | o =>
        rw [kj] at h2
        obtain ⟨q, hq, z1, z2, z3, z4, z5⟩ := h2
        subst z1
        have : q ≠ p := fun z => by subst z; exact ne (e.sep i j d b q h hb (isO_o k) (isO_o kj) s1 h1)
        exact ⟨q, hq, rfl, by rw [upd_ne this]; exact z2, by rw [upd_ne this]; exact z3, z4, z5.mono ex⟩
      | i a =>
        rw [kj] at h2
        obtain ⟨z0, q, hq, z1, z2, z3, z4, z5⟩ := h2
        subst z1
        have : q ≠ p := fun z => by subst z; exact ne (e.sep i j d b q h hb (isO_o k) (by rw [kj]; trivial) s1 h1)
        exact ⟨z0, q, hq, rfl, by rw [upd_ne this]; exact z2, by rw [upd_ne this]; exact z3, z4, z5.mono ex⟩
  · have nj : i ≠ j := fun z => by subst z; rw [kd_set_self] at kj; cases kj
    have nl : i ≠ l := fun z => by subst z; rw [kd_set_self] at kk; cases kk
    rw [kd_set_ne nj] at kj
    rw [kd_set_ne nl] at kk
    exact e.sep j l b b' q hj hk kj kk sj sk
  · have np : ∀ a ∈ A, a ≠ p := fun a ha z => hA.own i d p h (isO_o k) s1 (z ▸ ha)
    refine hA.sub (fun a ha => by rw [upd_ne (np a ha)]; exact (hA.out a ha).1) (fun a ha => upd_ne (np a ha)) ex (fun j b q hj kj sj => ?_) fun j b kj hj => ?_
    · have nj : i ≠ j := fun z => by subst z; rw [kd_set_self] at kj; cases kj
      rw [kd_set_ne nj] at kj
      exact hA.own j b q hj kj sj
    · have nj : i ≠ j := fun z => by subst z; rw [kd_set_self] at kj; rcases kj with ⟨_, kj⟩ | kj <;> cases kj
      rw [kd_set_ne nj]
      exact ⟨rfl, hj, rfl⟩
theorem upd_eq {H : Hp} {p : Addr} {o : HO} (h : H p = some o) : upd H p o = H := by
  funext a
  by_cases e : a = p
  · rw [e, upd_same, h]
  · rw [upd_ne e]
/-- an own dict becomes a value: it is locked -/
theorem EnvOk.pubD (e : EnvOk c S0 H0 G S H σ r) (i : Nat) (k : kd G i = .o) {d : D} (h : r[i]? = some (some d)) (hd : isDct d = true) : ∃ p u, H p = some u ∧ Mut (some u) ∧ ∀ w, ∃ S', EnvOk c S0 H0 (G.set i .v) S' (upd H p (.frz w u)) σ r := by
  obtain ⟨p, ho, s1, s2, s3, s4, s5⟩ := e.own k h
  exact ⟨p, ho, s2, s5.mut, fun w => ⟨_, e.pubG i k h s1 s2 s3 s4 ((s5.mono (Ex.new s3)).pubD hd upd_same).1⟩⟩
/-- the own object in slot i becomes a value -/
theorem EnvOk.pub (e : EnvOk c S0 H0 G S H σ r) (i : Nat) (hk : kd G i = .o ∨ kd G i = .v) (nd : ∀ d, r[i]? = some (some d) → isDct d = false) : ∃ S', EnvOk c S0 H0 (G.set i .v) S' H σ r := by
  by_cases k : kd G i = .o
  · cases h : r[i]? with
    | none =>
      refine ⟨S, e.fwd, e.len, fun j b hb => ?_, fun j l b b' q hj hk kj kk sj sk => ?_, e.sto_un i hk⟩
      · have ne : i ≠ j := fun z => by subst z; rw [h] at hb; cases hb
        obtain ⟨u, h1, h2⟩ := e.slot j b hb
        exact ⟨u, h1, by rw [kd_set_ne ne]; exact h2⟩
      · have nj : i ≠ j := fun z => by subst z; rw [h] at hj; cases hj
        have nl : i ≠ l := fun z => by subst z; rw [h] at hk; cases hk
        rw [kd_set_ne nj] at kj
        rw [kd_set_ne nl] at kk
        exact e.sep j l b b' q hj hk kj kk sj sk
    | some od =>
      cases od with
      | none =>
        refine ⟨S, e.fwd, e.len, fun j b hb => ?_, fun j l b b' q hj hk kj kk sj sk => ?_, e.sto_un i hk⟩
        · have ne : i ≠ j := fun z => by subst z; rw [h] at hb; cases hb
          obtain ⟨u, h1, h2⟩ := e.slot j b hb
          exact ⟨u, h1, by rw [kd_set_ne ne]; exact h2⟩
        · have nj : i ≠ j := fun z => by subst z; rw [h] at hj; cases hj
          have nl : i ≠ l := fun z => by subst z; rw [h] at hk; cases hk
          rw [kd_set_ne nj] at kj
          rw [kd_set_ne nl] at kk
          exact e.sep j l b b' q hj hk kj kk sj sk
      | some d =>
        obtain ⟨p, ho, s1, s2, s3, s4, s5⟩ := e.own k h
        have := e.pubG i k h s1 s2 s3 s4 (ho2 := ho) ((s5.mono (Ex.new s3)).pub (nd d h) upd_same)
        rw [upd_eq s2] at this
        exact ⟨_, this⟩
  · have k' : kd G i = .v := hk.resolve_left k
    have all : ∀ j, kd (G.set i .v) j = kd G j := fun j => by
      by_cases ne : i = j
      · subst ne; rw [kd_set_self, k']
      · exact kd_set_ne ne
    exact ⟨S, e.fwd, e.len, fun j b hb => by rw [all]; exact e.slot j b hb, fun j l b b' q hj hk kj kk sj sk => e.sep j l b b' q hj hk ((all j) ▸ kj) ((all l) ▸ kk) sj sk, e.sto_un i hk⟩
end
end Dx
end S_DxA
section S_DxB
set_option Elab.async false
set_option linter.all false
set_option maxRecDepth 100000
set_option maxHeartbeats 2000000
namespace Dx
open PySem L2
/-- what is wanted behind a result, from (S, H) on -/
def PostG (c : Cf) (σ : St) (S H : Hp) {α : Type} (r : Res α) (k : α → Hp → Hp → Prop) : Prop :=
  match r with
  | .ok a => ∀ S' H', Fwd S H S' H' → k a S' H'
  | .err n ns vs => ∀ C dd S' H' fs, c.cm n = some C → Fwd S H S' H' → S' dd = some (.xd fs) → ns = fs.map (·.1) → RpA c.K c.cm S' (fs.map (·.2)) vs → c.W (.ref C) (some dd) σ H'
  | .bad => False
section
variable {c : Cf} {σ : St} {S H S1 H1 : Hp} {α β : Type} {r : Res α} {k k' : α → Hp → Hp → Prop}
theorem PostG.mono (h : PostG c σ S H r k) (f : Fwd S H S1 H1) : PostG c σ S1 H1 r k := by
  cases r with
  | ok a => exact fun S' H' g => h S' H' (f.trans g)
  | err n ns vs => exact fun C dd S' H' fs h1 g h2 h3 h4 => h C dd S' H' fs h1 (f.trans g) h2 h3 h4
  | bad => exact h
theorem PostG.imp (h : PostG c σ S H r k) (hk : ∀ a S' H', Fwd S H S' H' → k a S' H' → k' a S' H') : PostG c σ S H r k' := by
  cases r with
  | ok a => exact fun S' H' g => hk a S' H' g (h S' H' g)
  | err n ns vs => exact h
  | bad => exact h
theorem PostG.unbind {g : α → Res β} {k : β → Hp → Hp → Prop} (h : PostG c σ S H (r.bind g) k) : PostG c σ S H r fun a S' H' => PostG c σ S' H' (g a) k := by
  cases r with
  | ok a => exact fun S' H' f => PostG.mono (show PostG c σ S H (g a) k from h) f
  | err n ns vs => exact h
  | bad => exact h
end
/-- x where p holds; nothing is reckoned for it -/
noncomputable def guard {α : Type} (p : Prop) (x : Res α) : Res α := @ite _ p (Classical.propDecidable p) x .bad
theorem guard_pos {α : Type} {p : Prop} {x : Res α} (h : p) : guard p x = x := by unfold guard; exact if_pos h
theorem PostG.gd {c : Cf} {σ : St} {S H : Hp} {α : Type} {p : Prop} {x : Res α} {k : α → Hp → Hp → Prop} (h : PostG c σ S H (guard p x) k) : p ∧ PostG c σ S H x k := by
  by_cases hp : p
  · rw [guard_pos hp] at h; exact ⟨hp, h⟩
  · unfold guard at h; rw [if_neg hp] at h; exact h.elim
/-- a mode: what the heap ahead, the heaps behind, the machine's result and the data have in common -/
abbrev Md (β α : Type) := Hp → Hp → Hp → β → α → Prop
class Anti {β α : Type} (R : Md β α) : Prop where
  anti : ∀ {H H2 S' H' : Hp} {b : β} {a : α}, Ex H H2 → R H2 S' H' b a → R H S' H' b a
def mV (c : Cf) : Md V D := fun _ S' _ v d => Rp c.K c.cm S' v d
def mB (c : Cf) : Md V D := fun _ S' H' v d => RpB c.K c.cm S' H' v d
def mO (c : Cf) : Md V D := fun H S' H' v d => ∃ p ho, v = .ref p ∧ H p = none ∧ S' p = none ∧ H' p = some ho ∧ RpO c.K c.cm S' ho d
def mA (c : Cf) : Md (List V) (List D) := fun _ S' _ vs ds => RpA c.K c.cm S' vs ds
def mE (α : Type) : Md α α := fun _ _ _ b a => b = a
instance {c : Cf} : Anti (mV c) := ⟨fun _ h => h⟩
instance {c : Cf} : Anti (mB c) := ⟨fun _ h => h⟩
instance {c : Cf} : Anti (mA c) := ⟨fun _ h => h⟩
instance {α : Type} : Anti (mE α) := ⟨fun _ h => h⟩
instance {c : Cf} : Anti (mO c) := ⟨fun e ⟨p, ho, h1, h2, h3⟩ => ⟨p, ho, h1, e.nn h2, h3⟩⟩
/-- the reading of a piece whose data is f -/
def rd (c : Cf) (G : List Ow) {α β : Type} (f : Rho → Res α) (R : Md β α) : St → Hp → (β → Hp → Prop) → Prop := fun σ H Q =>
  ∃ S0 H0 S r, EnvOk c S0 H0 G S H σ r ∧ PostG c σ S H (f r) fun a S' H' => ∀ b, R H S' H' b a → Q b H'
abbrev tV (c : Cf) (G : List Ow) (f : Rho → Res D) : TE := rd c G f (mV c)
abbrev tR (c : Cf) (G : List Ow) (f : Rho → Res D) : TE := rd c G f (mB c)
abbrev tO (c : Cf) (G : List Ow) (f : Rho → Res D) : TE := rd c G f (mO c)
abbrev tT (c : Cf) (G : List Ow) (f : Rho → Res Bool) : TT := rd c G f (mE Bool)
abbrev tAs (c : Cf) (G : List Ow) (f : Rho → Res (List D)) : TA := rd c G f (mA c)
theorem pe_imp {X : Cx} {e : Expr} {t t' : TE} (h : PE X e t) (k : ∀ σ H Q, t' σ H Q → t σ H Q) : PE X e t' := ⟨fun pins s σ H Q I q => h.run pins s σ H Q I (k σ H Q q)⟩
theorem pt_imp {X : Cx} {e : Expr} {t t' : TT} (h : PT X e t) (k : ∀ σ H Q, t' σ H Q → t σ H Q) : PT X e t' := ⟨fun pins s σ H Q I q => h.run pins s σ H Q I (k σ H Q q)⟩
theorem pa_imp {X : Cx} {es : List Expr} {t t' : TA} (h : PA X es t) (k : ∀ σ H Q, t' σ H Q → t σ H Q) : PA X es t' := ⟨fun p pins s σ H Q I q => h.run p pins s σ H Q I (k σ H Q q)⟩
theorem ps_imp {X : Cx} {st : Stmt} {t t' : TS} (h : PS X st t) (k : ∀ E σ H, t' E σ H → t E σ H) : PS X st t' := ⟨fun pins s σ H E I q => h.run pins s σ H E I (k E σ H q)⟩
theorem pss_imp {X : Cx} {st : List Stmt} {t t' : TS} (h : PSs X st t) (k : ∀ E σ H, t' E σ H → t E σ H) : PSs X st t' := ⟨fun pins s σ H E I q => h.run pins s σ H E I (k E σ H q)⟩
section
variable {c : Cf} {G : List Ow} {σ : St} {S0 H0 S H : Hp} {r : Rho} {α β γ : Type}
/-- one piece, then what follows -/
theorem rd_seq {f : Rho → Res α} {R : Md β α} (e : EnvOk c S0 H0 G S H σ r) {g : α → Res γ} {k : γ → Hp → Hp → Prop} (p : PostG c σ S H ((f r).bind g) k) {Q : β → Hp → Prop}
    (h : ∀ a b S' H', Fwd S H S' H' → EnvOk c S0 H0 G S' H' σ r → R H S' H' b a → PostG c σ S' H' (g a) k → Q b H') : rd c G f R σ H Q :=
  ⟨S0, H0, S, r, e, p.unbind.imp fun a S' H' fw hk b hb => h a b S' H' fw (e.go fw) hb hk⟩
theorem PostG.anti {R : Md β α} [Anti R] {H2 : Hp} {x : Res α} {Q : β → Hp → Prop} (e : Ex H H2) {S2 : Hp} (p : PostG c σ S2 H2 x fun a S' H' => ∀ b, R H S' H' b a → Q b H') :
    PostG c σ S2 H2 x fun a S' H' => ∀ b, R H2 S' H' b a → Q b H' := p.imp fun _ _ _ _ hk b hb => hk b (Anti.anti e hb)
/-- the wish behind a value that is there -/
theorem PostG.here {R : Md β α} {a : α} {b : β} {Q : β → Hp → Prop} (p : PostG c σ S H (.ok a) fun a S' H' => ∀ b, R H S' H' b a → Q b H') (e : Ex S H) (h : R H S H b a) : Q b H := p S H (Fwd.refl e) b h
theorem PostG.go {a : α} {k : α → Hp → Hp → Prop} (p : PostG c σ S H (.ok a) k) (e : Ex S H) : k a S H := p S H (Fwd.refl e)
/-- .. behind a new object that stays; that is kept own -/
theorem PostG.laid {d : D} {o : HO} {q : Addr} {Q : VK} (p : PostG c σ S H (.ok d) fun a S' H' => ∀ b, mV c H S' H' b a → Q b H') (e : Ex S H) (n : H q = none) (h : Rp c.K c.cm (upd S q o) (.ref q) d) : Q (.ref q) (upd H q o) :=
  p _ _ (Fwd.both e n) _ h
theorem PostG.kept {d : D} {o : HO} {q : Addr} {Q : VK} (p : PostG c σ S H (.ok d) fun a S' H' => ∀ b, mO c H S' H' b a → Q b H') (e : Ex S H) (n : H q = none) (h : RpO c.K c.cm S o d) : Q (.ref q) (upd H q o) :=
  p _ _ (Fwd.heap e n) _ ⟨q, o, rfl, n, e.nn n, upd_same, h⟩
end
/-- .. or so as soon as a told object is locked -/
def Lo (Q : Hp → Prop) (H : Hp) : Prop := Q H ∨ ∃ p u, H p = some u ∧ Mut (some u) ∧ ∀ w, Q (upd H p (.frz w u))
theorem Fwd.pubF {S H S' H' : Hp} {p : Addr} {o : HO} (f : Fwd S H S' H') (n : H p = none) (ns : S' p = none) (tk : Tk H' (upd H' p o)) : Fwd S H (upd S' p o) (upd H' p o) :=
  ⟨f.s.trans (Ex.new ns), f.h.put n, f.sub.both, fun a u ha m => (by
    by_cases hh : a = p
    · subst hh; exact .inl n
    · rw [upd_ne hh] at ha; exact f.new a u ha m), f.tb.trans tk⟩
section
variable {X : Cx}
theorem pe_lock {e : Expr} {t t2 : TE} (h : PE X e t) (k : ∀ σ H Q, t2 σ H Q → t σ H fun v H' => Lo (Q v) H') : PE X e t2 := ⟨fun pins s σ H Q I q => thn (h.run pins s σ H _ I (k _ _ _ q)) fun u s' ⟨v, H', I', r, z⟩ => by
  rcases z with z | ⟨p, ho, h1, h2, z⟩
  · exact ⟨v, H', I', r, z⟩
  · obtain ⟨od, I2⟩ := I'.lock h1 h2
    exact ⟨v, _, I2, r, z od⟩⟩
theorem pss_lock {st : List Stmt} {t t2 : TS} (h : PSs X st t) (k : ∀ E σ H, t2 E σ H → Lo (fun H => t E σ H) H) : PSs X st t2 := ⟨fun pins s σ H E I q => by
  rcases k _ _ _ q with z | ⟨p, ho, h1, h2, z⟩
  · exact h.run pins s σ H E I z
  · obtain ⟨od, I2⟩ := I.lock h1 h2
    exact h.run pins s σ _ E I2 (z od)⟩
theorem pss_lockE {st : List Stmt} {t t2 : TS} (h : PSs X st t) (k : ∀ (E : Ends) σ H, t2 E σ H → t { E with nx := fun σ H => Lo (E.nx σ) H } σ H) : PSs X st t2 := ⟨fun pins s σ H E I q => thn (h.run pins s σ H _ I (k _ _ _ q)) fun f s' z => by
  cases f with
  | next =>
    obtain ⟨σ', H', I', z⟩ := z
    rcases z with z | ⟨p, ho, h1, h2, z⟩
    · exact ⟨σ', H', I', z⟩
    · obtain ⟨od, I2⟩ := I'.lock h1 h2
      exact ⟨σ', _, I2, z od⟩
  | brk => exact z
  | cont => exact z
  | ret u => exact z⟩
end
section
variable {X : Cx} {c : Cf} {G : List Ow} {f f1 f2 : Rho → Res D} {a b e : Expr} {pos : Pos}
theorem de_pub (h : PE X e (tO c G f)) : PE X e (tV c G f) := pe_lock h fun σ H Q ⟨S0, H0, S, r, ok, p⟩ => ⟨S0, H0, S, r, ok, by
  revert p
  cases f r with
  | ok d =>
    intro p S' H' fw b hb
    obtain ⟨q, ho, rfl, h1, h2, h3, h4⟩ := hb
    cases hd : isDct d with
    | false =>
      have fw' := fw.pub h1 h2 h3
      exact .inl (p _ H' fw' _ ((h4.mono (Ex.new h2)).pub hd upd_same))
    | true => exact .inr ⟨q, ho, h3, h4.mut, fun w => p _ _ (fw.pubF h1 h2 (Tk.mut h3 h4)) _ ((h4.mono (Ex.new h2)).pubD hd upd_same).1⟩
  | err n ns vs => exact id
  | bad => exact id⟩
theorem db_of (h : PE X e (tV c G f)) : PE X e (tR c G f) := pe_imp h fun σ H Q ⟨S0, H0, S, r, ok, p⟩ => ⟨S0, H0, S, r, ok, p.imp fun _ _ _ _ hk b hb => hk b (.inl hb)⟩
theorem db_own (h : PE X e (tO c G f)) : PE X e (tR c G f) := db_of (de_pub h)
def dVar (i : Nat) : Rho → Res D := fun r => match r[i]? with
  | some (some d) => .ok d
  | _ => .bad
def dC (d : D) : Rho → Res D := fun _ => .ok d
theorem of_dVar {σ : St} {S H : Hp} {i : Nat} {r : Rho} {k : D → Hp → Hp → Prop} (p : PostG c σ S H (dVar i r) k) : ∃ d, r[i]? = some (some d) ∧ PostG c σ S H (.ok d) k := by
  unfold dVar at p
  split at p
  · exact ⟨_, by assumption, p⟩
  · exact p.elim
theorem de_var (i : Nat) {x : Str} (h : PE X (.Name x pos) (tVar i)) (k : kd G i = .v) : PE X (.Name x pos) (tV c G (dVar i)) := pe_imp h fun σ H Q ⟨S0, H0, S, r, ok, p⟩ => by
  obtain ⟨d, hd, p⟩ := of_dVar p
  obtain ⟨v, h1, h2⟩ := ok.slot i d hd
  rw [k] at h2
  exact ⟨v, h1, p.here ok.ex h2⟩
theorem db_var (i : Nat) {x : Str} (h : PE X (.Name x pos) (tVar i)) (k : kd G i = .v ∨ isO (kd G i) ∨ kd G i = .b) : PE X (.Name x pos) (tR c G (dVar i)) := pe_imp h fun σ H Q ⟨S0, H0, S, r, ok, p⟩ => by
  obtain ⟨d, hd, p⟩ := of_dVar p
  obtain ⟨v, h1, h2⟩ := ok.slot i d hd
  refine ⟨v, h1, p.here ok.ex ?_⟩
  rcases k with k | k | k
  · rw [k] at h2; exact .inl h2
  · obtain ⟨q, ho, z1, z2, z3, z4, z5⟩ := h2.o_of k
    exact .inr ⟨q, ho, z1, z2, z5⟩
  · rw [k] at h2
    exact RpB.mono h2 Ex.refl ok.fwd.h
theorem de_c {v : V} {d : D} (h : PE X e (tC v)) (hd : ∀ S, Rp c.K c.cm S v d) : PE X e (tV c G (dC d)) := pe_imp h fun σ H Q ⟨S0, H0, S, r, ok, p⟩ => p.here ok.ex (hd S)
theorem de_int {i : Int} {j : Nat} : PE X (.Constant (.int i) j pos) (tV c G (dC (.int i))) := de_c pe_int fun _ => .int i
theorem de_bl {b : Bool} {j : Nat} : PE X (.Constant (.bool b) j pos) (tV c G (dC (.bl b))) := de_c pe_bl fun _ => .bl b
theorem de_non {j : Nat} : PE X (.Constant .none j pos) (tV c G (dC .non)) := de_c pe_non fun _ => .non
theorem de_str {x : Str} {j : Nat} : PE X (.Constant (.str x) j pos) (tV c G (dC (.str x))) := de_c pe_str fun _ => .str x
def dOp (g : D → D → Res D) (f1 f2 : Rho → Res D) : Rho → Res D := fun r => (f1 r).bind fun x => (f2 r).bind fun y => g x y
def OpS (c : Cf) (R : Md V D) (r2 : R2) (g : D → D → Res D) : Prop := ∀ (σ : St) (S H : Hp) (x y : V) (d e : D) (Q : VK), Ex S H → RpB c.K c.cm S H x d → RpB c.K c.cm S H y e →
  PostG c σ S H (g d e) (fun a S' H' => ∀ b, R H S' H' b a → Q b H') → r2 x y H Q
theorem op_rd {R : Md V D} [Anti R] {r2 : R2} {g : D → D → Res D} (hs : OpS c R r2 g) : ∀ σ H Q, rd c G (dOp g f1 f2) R σ H Q → tOp r2 (tR c G f1) (tR c G f2) σ H Q := fun σ H Q ⟨S0, H0, S, r, ok, p⟩ =>
  rd_seq ok p fun x v S1 H1 w1 o1 m1 p1 => rd_seq o1 p1 fun y u S2 H2 w2 o2 m2 p2 => hs σ S2 H2 v u x y Q o2.ex (RpB.mono m1 w2.s w2.h) m2 (p2.anti (w1.h.trans w2.h))
theorem de_op {R : Md V D} [Anti R] {op : Operator} {r2 : R2} {g : D → D → Res D} (ho : OpR X (binaryOp op) r2) (hs : OpS c R r2 g) (ha : PE X a (tR c G f1)) (hb : PE X b (tR c G f2)) : PE X (.BinOp a op b pos) (rd c G (dOp g f1 f2) R) :=
  pe_imp (pe_op ho ha hb) (op_rd hs)
theorem de_cmp {R : Md V D} [Anti R] {op : CmpOp} {r2 : R2} {g : D → D → Res D} (ho : OpR X (compareOp op) r2) (hs : OpS c R r2 g) (ha : PE X a (tR c G f1)) (hb : PE X b (tR c G f2)) (hm : behindInMarks op b = false) :
    PE X (.Compare a [op] [b] pos) (rd c G (dOp g f1 f2) R) := pe_imp (pe_cmpR ho ha hb hm) (op_rd hs)
/-- a truth value as a test -/
def asB : D → Res Bool
  | .bl b => .ok b
  | _ => .bad
def dT (f : Rho → Res D) : Rho → Res Bool := fun r => (f r).bind asB
theorem of_asB {σ : St} {S H : Hp} {d : D} {k : Bool → Hp → Hp → Prop} (p : PostG c σ S H (asB d) k) : ∃ b, d = .bl b ∧ PostG c σ S H (.ok b) k := by
  cases d with
  | bl b => exact ⟨b, rfl, p⟩
  | _ => exact p.elim
theorem dt_cmp {op : CmpOp} {r2 : R2} {g : D → D → Res D} (ho : OpR X (compareOp op) r2) (hs : OpS c (mV c) r2 g) (ha : PE X a (tR c G f1)) (hb : PE X b (tR c G f2)) (hm : behindInMarks op b = false) :
    PT X (.Compare a [op] [b] pos) (tT c G (dT (dOp g f1 f2))) := pt_imp (pt_cmpR ho ha hb hm) fun σ H Q ⟨S0, H0, S, r, ok, p⟩ => by
  refine op_rd (G := G) (f1 := f1) (f2 := f2) hs σ H _ (rd_seq ok p fun d v S1 H1 w1 o1 m1 p1 => ?_)
  obtain ⟨b, rfl, p1⟩ := of_asB p1
  cases m1
  exact ⟨b, rfl, p1.go o1.ex _ rfl⟩
/-- an expression whose value is True or False, as a test -/
theorem dt_val (h : PE X e (tV c G f)) (he : ∀ whole, isTrue e X.env whole = (do let v ← whole; standAt e.pos; holding [v] (truthy v)) := by intro _; rfl) : PT X e (tT c G (dT f)) :=
  pt_imp (pt_val h he) fun σ H Q ⟨S0, H0, S, r, ok, p⟩ => rd_seq ok p fun d v S1 H1 w1 o1 m1 p1 => by
    obtain ⟨b, rfl, p1⟩ := of_asB p1
    cases m1
    exact ⟨b, rfl, p1.go o1.ex _ rfl⟩
variable {t1 t2 : Rho → Res Bool} {rest : List Expr}
def dAnd (t u : Rho → Res Bool) : Rho → Res Bool := fun r => (t r).bind fun b => if b = true then u r else .ok false
def dOr (t u : Rho → Res Bool) : Rho → Res Bool := fun r => (t r).bind fun b => if b = true then .ok true else u r
def dNot (t : Rho → Res Bool) : Rho → Res Bool := fun r => (t r).bind fun b => .ok (!b)
def dIf {α : Type} (t : Rho → Res Bool) (f g : Rho → Res α) : Rho → Res α := fun r => (t r).bind fun b => if b = true then f r else g r
theorem pw_imp {t t' : TT} (h : PW X e t) (k : ∀ σ H Q, t' σ H Q → t σ H Q) : PW X e t' := ⟨fun w pins s σ H Q I q => h.run w pins s σ H Q I (k σ H Q q)⟩
theorem dw_and1 (ha : PT X a (tT c G t1)) : PW X (.BoolOp .And [a] pos) (tT c G t1) := pw_and1 ha
theorem dw_or1 (ha : PT X a (tT c G t1)) : PW X (.BoolOp .Or [a] pos) (tT c G t1) := pw_or1 ha
theorem dw_and (ha : PT X a (tT c G t1)) (hb : PW X (.BoolOp .And (b :: rest) pos) (tT c G t2)) : PW X (.BoolOp .And (a :: b :: rest) pos) (tT c G (dAnd t1 t2)) := pw_imp (pw_and ha hb) fun σ H Q ⟨S0, H0, S, r, ok, p⟩ =>
  rd_seq ok p fun x v S1 H1 w1 o1 m1 p1 => by
    rw [show v = x from m1]
    cases x with
    | true => exact ⟨S0, H0, S1, r, o1, p1⟩
    | false => exact p1.go o1.ex _ rfl
theorem dw_or (ha : PT X a (tT c G t1)) (hb : PW X (.BoolOp .Or (b :: rest) pos) (tT c G t2)) : PW X (.BoolOp .Or (a :: b :: rest) pos) (tT c G (dOr t1 t2)) := pw_imp (pw_or ha hb) fun σ H Q ⟨S0, H0, S, r, ok, p⟩ =>
  rd_seq ok p fun x v S1 H1 w1 o1 m1 p1 => by
    rw [show v = x from m1]
    cases x with
    | true => exact p1.go o1.ex _ rfl
    | false => exact ⟨S0, H0, S1, r, o1, p1⟩
theorem dt_not (ha : PT X a (tT c G t1)) : PT X (.UnaryOp .Not a pos) (tT c G (dNot t1)) := pt_imp (pt_not ha) fun σ H Q ⟨S0, H0, S, r, ok, p⟩ =>
  rd_seq ok p fun x v S1 H1 w1 o1 m1 p1 => by
    rw [show v = x from m1]
    exact p1.go o1.ex _ rfl
/-- and, or, not as values: all True or False -/
def dAndV (f g : Rho → Res D) : Rho → Res D := fun r => (f r).bind fun x => (asB x).bind fun b => if b = true then g r else .ok (.bl false)
def dOrV (f g : Rho → Res D) : Rho → Res D := fun r => (f r).bind fun x => (asB x).bind fun b => if b = true then .ok (.bl true) else g r
def dNotV (f : Rho → Res D) : Rho → Res D := fun r => (f r).bind fun x => (asB x).bind fun b => .ok (.bl (!b))
end
end Dx
end S_DxB
section S_DxC
set_option Elab.async false
set_option linter.all false
set_option maxRecDepth 100000
set_option maxHeartbeats 2000000
namespace Dx
open PySem L2
mutual
def toPy : D → Option PyData
  | .non => some .none
  | .bl b => some (.bool b)
  | .int i => some (.int i)
  | .str s => some (.str s)
  | .lst ds => (toPyL ds).map .list
  | .fz ds => (toPyL ds).map .list
  | .tup ds => (toPyL ds).map .tuple
  | .kt ds => (toPyL ds).map .tuple
  | .dk _ _ => none
  | .dt _ _ => none
  | .dn _ _ => none
  | .obj _ _ _ => none
  | .own _ => none
  | .st _ _ => none
def toPyL : List D → Option (List PyData)
  | [] => some []
  | d :: ds => match toPy d, toPyL ds with
    | some p, some ps => some (p :: ps)
    | _, _ => none
end
section
variable {K : PySem.W.Frag} {cm : CM} {S H : Hp}
mutual
theorem Rp.dp (e : Ex S H) : ∀ {v : V} {d : D} {p : PyData}, Rp K cm S v d → toPy d = some p → Dp K H v p
  | _, .non, _, h, q => by cases h; cases q; exact .non
  | _, .bl _, _, h, q => by cases h; cases q; exact .bl _
  | _, .int _, _, h, q => by cases h; cases q; exact .int _
  | _, .str _, _, h, q => by cases h; cases q; exact .str _
  | _, .lst ds, _, h, q => by
    cases h with | lst a r =>
    rw [toPy] at q
    obtain ⟨ps, h1, rfl⟩ := Option.map_eq_some_iff.mp q
    exact .lst (.inl (.inl (e _ _ a))) (RpA.dp e r h1)
  | _, .fz ds, _, h, q => by
    cases h with | fz a r =>
    rw [toPy] at q
    obtain ⟨ps, h1, rfl⟩ := Option.map_eq_some_iff.mp q
    exact .lst (e.l a) (RpA.dp e r h1)
  | _, .tup ds, _, h, q => by
    cases h with | tup a r =>
    rw [toPy] at q
    obtain ⟨ps, h1, rfl⟩ := Option.map_eq_some_iff.mp q
    exact .tup (.inl (.inl (e _ _ a))) (RpA.dp e r h1)
  | _, .kt ds, _, h, q => by
    cases h with | kt a r =>
    rw [toPy] at q
    obtain ⟨ps, h1, rfl⟩ := Option.map_eq_some_iff.mp q
    exact .tup (e.t a) (RpA.dp e r h1)
  | _, .dk _ _, _, h, q => by cases q
  | _, .dt _ _, _, h, q => by cases q
  | _, .dn _ _, _, h, q => by cases q
  | _, .obj _ _ _, _, h, q => by cases q
theorem RpA.dp (e : Ex S H) : ∀ {vs : List V} {ds : List D} {ps : List PyData}, RpA K cm S vs ds → toPyL ds = some ps → DpAll K H vs ps
  | _, [], _, h, q => by cases h; cases q; exact .nil
  | _, d :: ds, _, h, q => by
    cases h with | cons a r =>
    rw [toPyL] at q
    cases h1 : toPy d with
    | none => rw [h1] at q; cases q
    | some p =>
      cases h2 : toPyL ds with
      | none => rw [h1, h2] at q; cases q
      | some ps =>
        rw [h1, h2] at q
        cases q
        exact .cons (Rp.dp e a h1) (RpA.dp e r h2)
end
theorem RpB.dp {v : V} {d : D} {p : PyData} (e : Ex S H) (h : RpB K cm S H v d) (q : toPy d = some p) : Dp K H v p := by
  rcases h with h | ⟨a, ho, rfl, h2, h3⟩
  · exact h.dp e q
  · cases h3 with
    | lst r =>
      rw [toPy] at q
      obtain ⟨ps, h1, rfl⟩ := Option.map_eq_some_iff.mp q
      exact .lst (.inl (.inl h2)) (r.dp e h1)
    | dk _ _ => cases q
    | dt _ _ => cases q
    | dn _ _ _ => cases q
    | obj _ _ _ => cases q
end
noncomputable def addD : D → D → Res D
  | .int i, .int j => .ok (.int (i + j))
  | .str a, .str b => guard (a.length + b.length ≤ sizeLine) (.ok (.str (a ++ b)))
  | .tup a, .tup b => guard (a.length + b.length ≤ sizeLine) (.ok (.tup (a ++ b)))
  | .lst a, .lst b => guard (a.length + b.length ≤ sizeLine) (.ok (.lst (a ++ b)))
  | _, _ => .bad
def rAddX (K : PySem.W.Frag) : R2 := fun x y H Q => (rI0 (fun i j => .int (i + j))) x y H Q ∨ (∃ i j, x = .str i ∧ y = .str j ∧ i.length + j.length ≤ sizeLine ∧ Q (.str (i ++ j)) H) ∨ rCatA K x y H Q ∨ rCat x y H Q
section
variable {X : Cx} {c : Cf}
theorem or_add : OpR X (binaryOp .Add) (rAddX X.K) := op_add.or (op_add_str.or (op_catA.or op_cat))
theorem PostG.ite {σ : St} {S H : Hp} {α : Type} {p : Prop} [Decidable p] {x : Res α} {k : α → Hp → Hp → Prop} (h : PostG c σ S H (if p then x else .bad) k) : p ∧ PostG c σ S H x k := by
  by_cases hp : p
  · rw [if_pos hp] at h; exact ⟨hp, h⟩
  · rw [if_neg hp] at h; exact h.elim
theorem os_add : OpS c (mV c) (rAddX c.K) addD := by
  intro σ S H x y d e Q ex hx hy p
  unfold addD at p
  split at p
  · cases hx.int; cases hy.int
    exact .inl ⟨_, _, rfl, rfl, p.here ex (.int _)⟩
  · cases hx.str; cases hy.str
    obtain ⟨hl, p⟩ := p.gd
    exact .inr (.inl ⟨_, _, rfl, rfl, hl, p.here ex (.str _)⟩)
  · obtain ⟨q1, xs, rfl, a1, r1, s1⟩ := hx.tup ex
    obtain ⟨q2, ys, rfl, a2, r2, s2⟩ := hy.tup ex
    obtain ⟨hl, p⟩ := p.gd
    refine .inr (.inr (.inl ⟨_, _, xs, ys, rfl, rfl, a1, a2, by rw [r1.length, r2.length]; exact hl, fun h => ?_, fun _ h => ?_, fun _ _ q hq => ?_⟩))
    · subst h; cases r1; exact p.here ex (.tup s2 r2)
    · subst h; cases r2; rw [List.append_nil] at p; exact p.here ex (.tup s1 r1)
    · exact p.laid ex hq (.tup upd_same ((r1.app r2).mono (Ex.new (ex.nn hq))))
  · obtain ⟨q1, xs, rfl, a1, r1⟩ := hx.list ex
    obtain ⟨q2, ys, rfl, a2, r2⟩ := hy.list ex
    obtain ⟨hl, p⟩ := p.gd
    refine .inr (.inr (.inr ⟨_, _, xs, ys, rfl, rfl, a1, a2, by rw [r1.length, r2.length]; exact hl, fun q hq => ?_⟩))
    exact p.laid ex hq (.lst upd_same ((r1.app r2).mono (Ex.new (ex.nn hq))))
  · exact p.elim
/-- list + list, the new list one's own -/
noncomputable def addL : D → D → Res D
  | .lst a, .lst b => guard (a.length + b.length ≤ sizeLine) (.ok (.lst (a ++ b)))
  | _, _ => .bad
def subD : D → D → Res D
  | .int i, .int j => .ok (.int (i - j))
  | _, _ => .bad
theorem os_sub : OpS c (mV c) (rI0 fun i j => .int (i - j)) subD := by
  intro σ S H x y d e Q ex hx hy p
  unfold subD at p
  split at p
  · cases hx.int; cases hy.int
    exact ⟨_, _, rfl, rfl, p.here ex (.int _)⟩
  · exact p.elim
def smallI (i : Int) : Prop := -(2 ^ 64) < i ∧ i < 2 ^ 64
theorem RpA.rep {K : PySem.W.Frag} {cm : CM} {S : Hp} {vs : List V} {ds : List D} (h : RpA K cm S vs ds) : ∀ n : Nat, RpA K cm S (List.replicate n vs).flatten (List.replicate n ds).flatten
  | 0 => .nil
  | n + 1 => by rw [List.replicate_succ, List.replicate_succ, List.flatten_cons, List.flatten_cons]; exact h.app (RpA.rep h n)
noncomputable def mulD : D → D → Res D
  | .int i, .int j => guard (smallI i ∨ smallI j) (.ok (.int (i * j)))
  | .lst a, .int k => guard (0 ≤ k ∧ k < 2 ^ 60 ∧ a.length * k.toNat ≤ sizeLine) (.ok (.lst (List.replicate k.toNat a).flatten))
  | _, _ => .bad
def rMulX : R2 := fun x y H Q => (rI CMul (fun i j => .int (i * j))) x y H Q ∨ rRep x y H Q
theorem or_mul : OpR X (binaryOp .Mult) rMulX := op_mul.or op_rep
theorem os_mul : OpS c (mV c) rMulX mulD := by
  intro σ S H x y d e Q ex hx hy p
  unfold mulD at p
  split at p
  · cases hx.int; cases hy.int
    obtain ⟨hl, p⟩ := p.gd
    exact .inl ⟨_, _, rfl, rfl, hl, p.here ex (.int _)⟩
  · obtain ⟨q1, xs, rfl, a1, r1⟩ := hx.list ex
    cases hy.int
    obtain ⟨⟨h0, h1, h2⟩, p⟩ := p.gd
    refine .inr ⟨_, _, xs, rfl, rfl, a1, by omega, by omega, by rw [r1.length]; exact h2, fun q hq => ?_⟩
    exact p.laid ex hq (.lst upd_same ((r1.rep _).mono (Ex.new (ex.nn hq))))
  · exact p.elim
noncomputable def fdivD : D → D → Res D
  | .int i, .int j => if 0 < j then guard (j < 4611686018427387904) (.ok (.int (i / j))) else guard (j ≠ 0 ∧ j.natAbs < 1073741824) (.ok (.int (i.fdiv j)))
  | _, _ => .bad
def rFdivX : R2 := fun x y H Q => (rI CDivW (fun i j => .int (i / j))) x y H Q ∨ (rI CDivN (fun i j => .int (i.fdiv j))) x y H Q
theorem or_fdiv : OpR X (binaryOp .FloorDiv) rFdivX := op_fdivW.or op_fdivN
theorem os_fdiv : OpS c (mV c) rFdivX fdivD := by
  intro σ S H x y d e Q ex hx hy p
  unfold fdivD at p
  split at p
  · cases hx.int; cases hy.int
    split at p
    · rename_i h
      obtain ⟨h2, p⟩ := p.gd
      exact .inl ⟨_, _, rfl, rfl, wide_div (b := 62) h (by omega) (by decide) (by decide), p.here ex (.int _)⟩
    · obtain ⟨h, p⟩ := p.gd
      exact .inr ⟨_, _, rfl, rfl, h, p.here ex (.int _)⟩
  · exact p.elim
noncomputable def modD : D → D → Res D
  | .int i, .int j => guard (0 < j) (.ok (.int (i % j)))
  | _, _ => .bad
theorem os_mod : OpS c (mV c) (rI (fun _ j => 0 < j) fun i j => .int (i % j)) modD := by
  intro σ S H x y d e Q ex hx hy p
  unfold modD at p
  split at p
  · cases hx.int; cases hy.int
    obtain ⟨h, p⟩ := p.gd
    exact ⟨_, _, rfl, rfl, h, p.here ex (.int _)⟩
  · exact p.elim
def intsD (g : Int → Int → Int) : D → D → Res D
  | .int i, .int j => .ok (.int (g i j))
  | _, _ => .bad
def eqFlat : D → D → Option Bool
  | .int i, .int j => some (decide (i = j))
  | .str a, .str b => some (decide (a = b))
  | .bl a, .bl b => some (decide (a = b))
  | .non, .non => some true
  | .non, .int _ => some false
  | .non, .bl _ => some false
  | .non, .str _ => some false
  | .int _, .non => some false
  | .bl _, .non => some false
  | .str _, .non => some false
  | .int _, .str _ => some false
  | .str _, .int _ => some false
  | .bl _, .str _ => some false
  | .str _, .bl _ => some false
  | _, _ => none
def eqDeep (d e : D) : Res Bool := match toPy d, toPy e with
  | some p, some q => if SeqAt.shaped p = true ∧ SeqAt.shaped q = true then .ok (PyData.eqv p q) else .bad
  | _, _ => .bad
def eqB (d e : D) : Res Bool := match eqFlat d e with
  | some b => .ok b
  | none => eqDeep d e
def eqD (d e : D) : Res D := (eqB d e).bind fun b => .ok (.bl b)
def neD (d e : D) : Res D := (eqB d e).bind fun b => .ok (.bl (!b))
theorem of_eqDeep {σ : St} {S H : Hp} {x y : V} {d e : D} {g : Bool → Res D} {k : D → Hp → Hp → Prop} (ex : Ex S H) (hx : RpB c.K c.cm S H x d) (hy : RpB c.K c.cm S H y e) (p : PostG c σ S H ((eqDeep d e).bind g) k) :
    ∃ u v, Dp c.K H x u ∧ Dp c.K H y v ∧ SeqAt.shaped u = true ∧ SeqAt.shaped v = true ∧ PostG c σ S H (g (PyData.eqv u v)) k := by
  unfold eqDeep at p
  split at p
  · rename_i u v h1 h2
    by_cases hs : SeqAt.shaped u = true ∧ SeqAt.shaped v = true
    · rw [if_pos hs] at p
      exact ⟨u, v, hx.dp ex h1, hy.dp ex h2, hs.1, hs.2, p⟩
    · rw [if_neg hs] at p
      exact p.elim
  · exact p.elim
theorem of_eqFlat {S H : Hp} {x y : V} {d e : D} {b : Bool} (hx : RpB c.K c.cm S H x d) (hy : RpB c.K c.cm S H y e) (h : eqFlat d e = some b) : scal x y = true ∧ decide (x = y) = b := by
  unfold eqFlat at h
  split at h
  · cases hx.int; cases hy.int; cases h; exact ⟨rfl, by simp⟩
  · cases hx.str; cases hy.str; cases h; exact ⟨rfl, by simp⟩
  · cases hx.bl; cases hy.bl; cases h; exact ⟨rfl, by simp⟩
  · cases hx.non; cases hy.non; cases h; exact ⟨rfl, rfl⟩
  · cases hx.non; cases hy.int; cases h; exact ⟨rfl, rfl⟩
  · cases hx.non; cases hy.bl; cases h; exact ⟨rfl, rfl⟩
  · cases hx.non; cases hy.str; cases h; exact ⟨rfl, rfl⟩
  · cases hx.int; cases hy.non; cases h; exact ⟨rfl, rfl⟩
  · cases hx.bl; cases hy.non; cases h; exact ⟨rfl, rfl⟩
  · cases hx.str; cases hy.non; cases h; exact ⟨rfl, rfl⟩
  · cases hx.int; cases hy.str; cases h; exact ⟨rfl, rfl⟩
  · cases hx.str; cases hy.int; cases h; exact ⟨rfl, rfl⟩
  · cases hx.bl; cases hy.str; cases h; exact ⟨rfl, rfl⟩
  · cases hx.str; cases hy.bl; cases h; exact ⟨rfl, rfl⟩
  · cases h
def rEqX (K : PySem.W.Frag) : R2 := fun x y H Q => rEq x y H Q ∨ rEqD K x y H Q
def rNeX (K : PySem.W.Frag) : R2 := fun x y H Q => rNe x y H Q ∨ rNeD K x y H Q
theorem or_eq (hu : X.A.units + 64 < cLine) : OpR X (compareOp .Eq) (rEqX X.K) := op_eq.or (op_eqD hu)
theorem or_ne (hu : X.A.units + 64 < cLine) : OpR X (compareOp .NotEq) (rNeX X.K) := op_ne.or (op_neD hu)
theorem os_eq : OpS c (mV c) (rEqX c.K) eqD := by
  intro σ S H x y d e Q ex hx hy p
  unfold eqD eqB at p
  split at p
  · rename_i b hb
    obtain ⟨h1, h2⟩ := of_eqFlat hx hy hb
    refine .inl ⟨h1, ?_⟩
    rw [h2]; exact p.here ex (.bl _)
  · obtain ⟨u, v, h1, h2, h3, h4, p⟩ := of_eqDeep ex hx hy p
    exact .inr ⟨u, v, h1, h2, h3, h4, p.here ex (.bl _)⟩
theorem os_ne : OpS c (mV c) (rNeX c.K) neD := by
  intro σ S H x y d e Q ex hx hy p
  unfold neD eqB at p
  split at p
  · rename_i b hb
    obtain ⟨h1, h2⟩ := of_eqFlat hx hy hb
    refine .inl ⟨h1, ?_⟩
    rw [h2]; exact p.here ex (.bl _)
  · obtain ⟨u, v, h1, h2, h3, h4, p⟩ := of_eqDeep ex hx hy p
    exact .inr ⟨u, v, h1, h2, h3, h4, p.here ex (.bl _)⟩
/-- by ints, by texts -/
def ordD (g : Int → Int → Bool) (h : Str → Str → Bool) : D → D → Res D
  | .int i, .int j => .ok (.bl (g i j))
  | .str a, .str b => .ok (.bl (h a b))
  | _, _ => .bad
def rOrd (g : Int → Int → Bool) (h : Str → Str → Bool) : R2 := fun x y H Q => (rI0 fun i j => .bl (g i j)) x y H Q ∨ ∃ i j, x = .str i ∧ y = .str j ∧ Q (.bl (h i j)) H
theorem os_ord {g : Int → Int → Bool} {h : Str → Str → Bool} : OpS c (mV c) (rOrd g h) (ordD g h) := by
  intro σ S H x y d e Q ex hx hy p
  unfold ordD at p
  split at p
  · cases hx.int; cases hy.int
    exact .inl ⟨_, _, rfl, rfl, p.here ex (.bl _)⟩
  · cases hx.str; cases hy.str
    exact .inr ⟨_, _, rfl, rfl, p.here ex (.bl _)⟩
  · exact p.elim
abbrev ltD : D → D → Res D := ordD (fun i j => decide (i < j)) fun i j => decide (i.cps.toList < j.cps.toList)
abbrev leD : D → D → Res D := ordD (fun i j => decide (i ≤ j)) fun i j => !decide (j.cps.toList < i.cps.toList)
abbrev gtD : D → D → Res D := ordD (fun i j => decide (j < i)) fun i j => decide (j.cps.toList < i.cps.toList)
abbrev geD : D → D → Res D := ordD (fun i j => decide (j ≤ i)) fun i j => !decide (i.cps.toList < j.cps.toList)
theorem or_lt : OpR X (compareOp .Lt) (rOrd (fun i j => decide (i < j)) fun i j => decide (i.cps.toList < j.cps.toList)) := op_lt.or op_lt_str
theorem or_le : OpR X (compareOp .LtE) (rOrd (fun i j => decide (i ≤ j)) fun i j => !decide (j.cps.toList < i.cps.toList)) := op_le.or op_le_str
theorem or_gt : OpR X (compareOp .Gt) (rOrd (fun i j => decide (j < i)) fun i j => decide (j.cps.toList < i.cps.toList)) := op_gt.or op_gt_str
theorem or_ge : OpR X (compareOp .GtE) (rOrd (fun i j => decide (j ≤ i)) fun i j => !decide (i.cps.toList < j.cps.toList)) := op_ge.or op_ge_str
/-- is None, is not None -/
def isN : D → Bool
  | .non => true
  | _ => false
def isD (neg : Bool) (d e : D) : Res D := if isN e = true then .ok (.bl (if neg then !isN d else isN d)) else .bad
theorem RpB.isN {K : PySem.W.Frag} {cm : CM} {S H : Hp} {v : V} {d : D} (h : RpB K cm S H v d) : decide (v = .non) = isN d := by
  rcases h with h | ⟨p, ho, rfl, h2, h3⟩
  · cases h <;> rfl
  · cases h3 <;> rfl
theorem os_is : OpS c (mV c) (fun x y H Q => y = .non ∧ Q (.bl (decide (x = .non))) H) (isD false) := by
  intro σ S H x y d e Q ex hx hy p
  obtain ⟨h, p⟩ := p.ite
  rw [hx.isN]
  refine ⟨of_decide_eq_true (hy.isN.trans h), p.here ex (.bl _)⟩
/-- x in: a list of data, a text in a text, a flat thing in a tuple of flat things -/
def flatD : D → Option V
  | .non => some .non
  | .bl b => some (.bl b)
  | .int i => some (.int i)
  | .str s => some (.str s)
  | _ => none
def flatDs : List D → Option (List V)
  | [] => some []
  | d :: ds => match flatD d, flatDs ds with
    | some v, some vs => some (v :: vs)
    | _, _ => none
def inDeep (d : D) (ds : List D) : Res Bool := match toPy d, toPyL ds with
  | some p, some ps => if SeqAt.shaped p = true ∧ SeqAt.shaped (.list ps) = true then .ok (ps.any fun z => PyData.eqv z p) else .bad
  | _, _ => .bad
def inFlat (d : D) (ds : List D) : Option Bool := match flatD d, flatDs ds with
  | some v, some vs => some (inV v vs)
  | _, _ => none
def inLst (d : D) (ds : List D) : Res Bool := match inFlat d ds with
  | some b => .ok b
  | none => inDeep d ds
def inTup (d : D) (ds : List D) : Res Bool := match inFlat d ds with
  | some b => .ok b
  | none => .bad
def inStr (a b : Str) : Bool := match a.cps.toList with
  | [n] => decide (n ∈ b.cps.toList)
  | _ => !(Builtin.Str.occurrences b a 0 b.length 1).isEmpty
def inB : D → D → Res Bool
  | d, .lst ds => inLst d ds
  | d, .fz ds => inLst d ds
  | d, .tup ds => inTup d ds
  | .str a, .str b => .ok (inStr a b)
  | _, _ => .bad
def inD (d e : D) : Res D := (inB d e).bind fun b => .ok (.bl b)
def ninD (d e : D) : Res D := (inB d e).bind fun b => .ok (.bl (!b))
theorem RpB.flat {K : PySem.W.Frag} {cm : CM} {S H : Hp} {v u : V} {d : D} (h : RpB K cm S H v d) (q : flatD d = some u) : v = u ∧ flatV u = true := by
  rcases h with h | ⟨p, ho, rfl, h2, h3⟩
  · cases h <;> first | (cases q; exact ⟨rfl, rfl⟩) | cases q
  · cases h3 <;> cases q
theorem RpA.flat {K : PySem.W.Frag} {cm : CM} {S : Hp} : ∀ {vs us : List V} {ds : List D}, RpA K cm S vs ds → flatDs ds = some us → vs = us ∧ us.all flatV = true
  | _, _, [], h, q => by cases h; cases q; exact ⟨rfl, rfl⟩
  | _, _, d :: ds, h, q => by
    cases h with | cons a r =>
    rw [flatDs] at q
    cases h1 : flatD d with
    | none => rw [h1] at q; cases q
    | some u =>
      cases h2 : flatDs ds with
      | none => rw [h1, h2] at q; cases q
      | some us =>
        rw [h1, h2] at q
        cases q
        obtain ⟨rfl, z1⟩ := RpB.flat (H := S) (.inl a) h1
        obtain ⟨rfl, z2⟩ := RpA.flat r h2
        exact ⟨rfl, by simp [z1, z2]⟩
def rInX (K : PySem.W.Frag) (neg : Bool) : R2 := fun x y H Q => (∃ d ds, Dp K H x d ∧ Dp K H y (.list ds) ∧ SeqAt.shaped d = true ∧ SeqAt.shaped (.list ds) = true ∧ Q (.bl (if neg then !ds.any fun z => PyData.eqv z d else ds.any fun z => PyData.eqv z d)) H) ∨
  rIn K neg x y H Q ∨ (∃ i j, x = .str i ∧ y = .str j ∧ Q (.bl (if neg then !(!(Builtin.Str.occurrences j i 0 j.length 1).isEmpty) else !(Builtin.Str.occurrences j i 0 j.length 1).isEmpty)) H) ∨
  ∃ (n : Nat) (z : Str), x = .str ⟨#[n]⟩ ∧ y = .str z ∧ Q (.bl (if neg then !decide (n ∈ z.cps.toList) else decide (n ∈ z.cps.toList))) H
theorem or_in (hu : X.A.units + 65 < cLine) : OpR X (compareOp .In) (rInX X.K false) := (op_inD hu).or (op_in_seq.or (op_in_str.or op_in_sign))
theorem or_nin (hu : X.A.units + 65 < cLine) : OpR X (compareOp .NotIn) (rInX X.K true) := (op_notInD hu).or (op_notIn_seq.or (op_notIn_str.or op_notIn_sign))
theorem of_inFlat {S H : Hp} {x : V} {d : D} {xs : List V} {ds : List D} {b : Bool} (hx : RpB c.K c.cm S H x d) (r1 : RpA c.K c.cm S xs ds) (h : inFlat d ds = some b) : flatV x = true ∧ xs.all flatV = true ∧ inV x xs = b := by
  unfold inFlat at h
  split at h
  · rename_i v vs h1 h2
    obtain ⟨rfl, z1⟩ := hx.flat h1
    obtain ⟨rfl, z2⟩ := r1.flat h2
    cases h
    exact ⟨z1, z2, rfl⟩
  · cases h
theorem of_inLst {σ : St} {S H : Hp} {x y : V} {d : D} {ds : List D} {neg : Bool} {Q : VK} {q : Addr} {xs : List V} (ex : Ex S H) (hx : RpB c.K c.cm S H x d) (hy : y = .ref q) (a1 : SqL c.K H q xs) (r1 : RpA c.K c.cm S xs ds) (hd : ∀ ps, toPyL ds = some ps → Dp c.K H y (.list ps))
    (p : PostG c σ S H ((inLst d ds).bind fun b => .ok (.bl (if neg then !b else b))) fun a S' H' => ∀ b, mV c H S' H' b a → Q b H') : rInX c.K neg x y H Q := by
  unfold inLst at p
  split at p
  · rename_i b hb
    obtain ⟨z1, z2, z3⟩ := of_inFlat hx r1 hb
    refine .inr (.inl ⟨q, xs, hy, .inl a1, z1, z2, ?_⟩)
    rw [z3]; exact p.here ex (.bl _)
  · unfold inDeep at p
    split at p
    · rename_i p' ps h1 h2
      by_cases hs : SeqAt.shaped p' = true ∧ SeqAt.shaped (.list ps) = true
      · rw [if_pos hs] at p
        exact .inl ⟨p', ps, hx.dp ex h1, hd ps h2, hs.1, hs.2, p.here ex (.bl _)⟩
      · rw [if_neg hs] at p; exact p.elim
    · exact p.elim
theorem of_inB {σ : St} {S H : Hp} {x y : V} {d e : D} {neg : Bool} {Q : VK} (ex : Ex S H) (hx : RpB c.K c.cm S H x d) (hy : RpB c.K c.cm S H y e)
    (p : PostG c σ S H ((inB d e).bind fun b => .ok (.bl (if neg then !b else b))) fun a S' H' => ∀ b, mV c H S' H' b a → Q b H') : rInX c.K neg x y H Q := by
  unfold inB at p
  split at p
  · obtain ⟨q, xs, hq, a1, r1⟩ := hy.list ex
    exact of_inLst ex hx hq (.inl (.inl a1)) r1 (fun ps h => hy.dp ex (by rw [toPy, h]; rfl)) p
  · obtain ⟨q, xs, hq, a1, r1⟩ := hy.fz ex
    exact of_inLst ex hx hq a1 r1 (fun ps h => hy.dp ex (by rw [toPy, h]; rfl)) p
  · unfold inTup at p
    split at p
    · rename_i b hb
      obtain ⟨q, xs, rfl, a1, r1, s1⟩ := hy.tup ex
      obtain ⟨z1, z2, z3⟩ := of_inFlat hx r1 hb
      refine .inr (.inl ⟨q, xs, rfl, .inr a1, z1, z2, ?_⟩)
      rw [z3]; exact p.here ex (.bl _)
    · exact p.elim
  · rename_i a b
    cases hx.str; cases hy.str
    unfold inStr at p
    split at p
    · rename_i n hn
      have ha : a = ⟨#[n]⟩ := Str.ext' (Array.toList_inj.mp (by rw [hn]))
      exact .inr (.inr (.inr ⟨n, b, by rw [ha], rfl, p.here ex (.bl _)⟩))
    · exact .inr (.inr (.inl ⟨_, _, rfl, rfl, p.here ex (.bl _)⟩))
  · exact p.elim
theorem os_in : OpS c (mV c) (rInX c.K false) inD := fun σ S H x y d e Q ex hx hy p => of_inB (neg := false) ex hx hy p
theorem os_nin : OpS c (mV c) (rInX c.K true) ninD := fun σ S H x y d e Q ex hx hy p => of_inB (neg := true) ex hx hy p
end
end Dx
end S_DxC
section S_DxD
set_option Elab.async false
set_option linter.all false
set_option maxRecDepth 100000
set_option maxHeartbeats 2000000
namespace Dx
open PySem L2
section
variable {X : Cx} {c : Cf} {G : List Ow} {f f1 f2 f3 : Rho → Res D} {a b e : Expr} {es : List Expr} {pos p : Pos} {fs : Rho → Res (List D)}
def dChain (g g' : D → D → Res D) (f1 f2 f3 : Rho → Res D) : Rho → Res D := fun r => (f1 r).bind fun x => (f2 r).bind fun y => (g x y).bind fun z => (asB z).bind fun k => if k = true then (f3 r).bind fun w => g' y w else .ok (.bl false)
theorem chain_rd {r2 r2' : R2} {g g' : D → D → Res D} (hs : OpS c (mV c) r2 g) (hs' : OpS c (mV c) r2' g') : ∀ σ H Q, tV c G (dChain g g' f1 f2 f3) σ H Q → tChain r2 r2' (tR c G f1) (tR c G f2) (tR c G f3) σ H Q := fun σ H Q ⟨S0, H0, S, r, ok, p⟩ =>
  rd_seq ok p fun x v S1 H1 w1 o1 m1 p1 => rd_seq o1 p1 fun y u S2 H2 w2 o2 m2 p2 => hs σ S2 H2 v u x y _ o2.ex (RpB.mono m1 w2.s w2.h) m2 (p2.unbind.imp fun z S3 H3 w3 p3 bz hz => by
    obtain ⟨k, rfl, q3⟩ := of_asB (PostG.imp p3.unbind fun _ _ _ _ h => h)
    cases hz
    refine ⟨k, rfl, ?_⟩
    have o3 := o2.go w3
    have p4 := q3.go o3.ex
    cases k with
    | true => exact rd_seq o3 p4 fun w u' S4 H4 w4 o4 m4 p5 => hs' σ S4 H4 u u' y w Q o4.ex (RpB.mono m2 (w3.s.trans w4.s) (w3.h.trans w4.h)) m4 p5
    | false => exact p4.go o3.ex _ (.bl _))
theorem dt_chain {op op' : CmpOp} {r2 r2' : R2} {g g' : D → D → Res D} {e3 : Expr} (ho : OpR X (compareOp op) r2) (hs : OpS c (mV c) r2 g) (ho' : OpR X (compareOp op') r2') (hs' : OpS c (mV c) r2' g') (ha : PE X a (tR c G f1)) (hb : PE X b (tR c G f2)) (hc : PE X e3 (tR c G f3))
    (hm : lastMarks [op, op'] [b, e3] = false := by with_unfolding_all rfl) : PT X (.Compare a [op, op'] [b, e3] pos) (tT c G (dT (dChain g g' f1 f2 f3))) := pt_imp (pt_chain ho ho' ha hb hc hm) fun σ H Q ⟨S0, H0, S, r, ok, p⟩ => by
  refine chain_rd (G := G) hs hs' σ H _ (rd_seq ok p fun d v S1 H1 w1 o1 m1 p1 => ?_)
  obtain ⟨b, rfl, p1⟩ := of_asB p1
  cases m1
  exact ⟨b, rfl, p1.go o1.ex _ rfl⟩
def negD : D → Res D
  | .int i => .ok (.int (-i))
  | _ => .bad
def dUn (g : D → Res D) (f : Rho → Res D) : Rho → Res D := fun r => (f r).bind g
theorem de_neg (ha : PE X a (tV c G f)) : PE X (.UnaryOp .USub a pos) (tV c G (dUn negD f)) := pe_imp (pe_un un_neg ha) fun σ H Q ⟨S0, H0, S, r, ok, p⟩ => rd_seq ok p fun d v S1 H1 w1 o1 m1 p1 => by
  cases d with
  | int i => cases m1; exact ⟨i, rfl, p1.go o1.ex _ (.int _)⟩
  | _ => exact p1.elim
theorem de_one {op : BoolOp} (h : PE X a (tV c G f)) : PE X (.BoolOp op [a] pos) (tV c G f) := pe_one h
theorem de_and {rest : List Expr} (ha : PE X a (tV c G f1)) (hb : PE X (.BoolOp .And (b :: rest) pos) (tV c G f2)) : PE X (.BoolOp .And (a :: b :: rest) pos) (tV c G (dAndV f1 f2)) := pe_imp (pe_and ha hb) fun σ H Q ⟨S0, H0, S, r, ok, p⟩ =>
  rd_seq ok p fun d v S1 H1 w1 o1 m1 p1 => by
    obtain ⟨k, rfl, q1⟩ := of_asB (p1.unbind)
    cases m1
    refine ⟨k, rfl, ?_⟩
    have p2 := q1.go o1.ex
    cases k with
    | true => exact ⟨S0, H0, S1, r, o1, p2⟩
    | false => exact p2.go o1.ex _ (.bl _)
theorem de_not (ha : PE X a (tV c G f)) : PE X (.UnaryOp .Not a pos) (tV c G (dNotV f)) := pe_imp (pe_not ha) fun σ H Q ⟨S0, H0, S, r, ok, p⟩ =>
  rd_seq ok p fun d v S1 H1 w1 o1 m1 p1 => by
    obtain ⟨k, rfl, q1⟩ := of_asB (p1.unbind)
    cases m1
    exact ⟨k, rfl, (q1.go o1.ex).go o1.ex _ (.bl _)⟩
def dNil : Rho → Res (List D) := fun _ => .ok []
def dCons (f : Rho → Res D) (g : Rho → Res (List D)) : Rho → Res (List D) := fun r => (f r).bind fun x => (g r).bind fun xs => .ok (x :: xs)
/-- with a mode for each: true, a thing that is only read -/
def RpM (c : Cf) (S H : Hp) : List Bool → List V → List D → Prop
  | [], [], [] => True
  | true :: ms, v :: vs, d :: ds => RpB c.K c.cm S H v d ∧ RpM c S H ms vs ds
  | false :: ms, v :: vs, d :: ds => Rp c.K c.cm S v d ∧ RpM c S H ms vs ds
  | _, _, _ => False
theorem RpM.mono {S H S' H' : Hp} (e : Ex S S') (e' : Ex H H') : ∀ {ms : List Bool} {vs : List V} {ds : List D}, RpM c S H ms vs ds → RpM c S' H' ms vs ds
  | [], [], [], _ => trivial
  | true :: ms, v :: vs, d :: ds, h => ⟨h.1.mono e e', RpM.mono e e' h.2⟩
  | false :: ms, v :: vs, d :: ds, h => ⟨h.1.mono e, RpM.mono e e' h.2⟩
  | [], _ :: _, _, h => h.elim
  | [], [], _ :: _, h => h.elim
  | true :: _, [], _, h => h.elim
  | true :: _, _ :: _, [], h => h.elim
  | false :: _, [], _, h => h.elim
  | false :: _, _ :: _, [], h => h.elim
def mM (c : Cf) (ms : List Bool) : Md (List V) (List D) := fun _ S' H' vs ds => RpM c S' H' ms vs ds
instance {ms : List Bool} : Anti (mM c ms) := ⟨fun _ h => h⟩
abbrev tM (c : Cf) (G : List Ow) (ms : List Bool) (f : Rho → Res (List D)) : TA := rd c G f (mM c ms)
theorem dm_nil : PA X [] (tM c G [] dNil) := pa_imp pa_nil fun σ H Q ⟨S0, H0, S, r, ok, p⟩ => p.go ok.ex _ trivial
theorem dm_bor {ms : List Bool} (ha : PE X e (tR c G f)) (hr : PA X es (tM c G ms fs)) (hs : starEach (e :: es) X.env = (false, eval e X.env) :: starEach es X.env := by rfl) : PA X (e :: es) (tM c G (true :: ms) (dCons f fs)) :=
  pa_imp (pa_cons ha hr hs) fun σ H Q ⟨S0, H0, S, r, ok, p⟩ => rd_seq ok p fun x v S1 H1 w1 o1 m1 p1 => rd_seq o1 p1 fun xs vs S2 H2 w2 o2 m2 p2 => p2.go o2.ex _ ⟨RpB.mono m1 w2.s w2.h, m2⟩
theorem dm_val {ms : List Bool} (ha : PE X e (tV c G f)) (hr : PA X es (tM c G ms fs)) (hs : starEach (e :: es) X.env = (false, eval e X.env) :: starEach es X.env := by rfl) : PA X (e :: es) (tM c G (false :: ms) (dCons f fs)) :=
  pa_imp (pa_cons ha hr hs) fun σ H Q ⟨S0, H0, S, r, ok, p⟩ => rd_seq ok p fun x v S1 H1 w1 o1 m1 p1 => rd_seq o1 p1 fun xs vs S2 H2 w2 o2 m2 p2 => p2.go o2.ex _ ⟨Rp.mono w2.s m1, m2⟩
theorem da_nil : PA X [] (tAs c G dNil) := pa_imp pa_nil fun σ H Q ⟨S0, H0, S, r, ok, p⟩ => p.go ok.ex _ .nil
theorem da_cons (ha : PE X e (tV c G f)) (hr : PA X es (tAs c G fs)) (hs : starEach (e :: es) X.env = (false, eval e X.env) :: starEach es X.env := by rfl) : PA X (e :: es) (tAs c G (dCons f fs)) :=
  pa_imp (pa_cons ha hr hs) fun σ H Q ⟨S0, H0, S, r, ok, p⟩ => rd_seq ok p fun x v S1 H1 w1 o1 m1 p1 => rd_seq o1 p1 fun xs vs S2 H2 w2 o2 m2 p2 => p2.go o2.ex _ (.cons (Rp.mono w2.s m1) m2)
noncomputable def mkTup (ds : List D) : Res D := guard (ds.length ≤ sizeLine) (.ok (.tup ds))
noncomputable def mkLst (ds : List D) : Res D := guard (ds.length ≤ sizeLine) (.ok (.lst ds))
noncomputable def dTup (g : Rho → Res (List D)) : Rho → Res D := fun r => (g r).bind mkTup
noncomputable def dLst (g : Rho → Res (List D)) : Rho → Res D := fun r => (g r).bind mkLst
theorem de_tup {k : Nat} (h : PA X es (tAs c G fs)) : PE X (.Tuple es k pos) (tV c G (dTup fs)) := pe_imp (pe_tup h) fun σ H Q ⟨S0, H0, S, r, ok, p⟩ => rd_seq ok p fun ds vs S1 H1 w1 o1 m1 p1 => by
  obtain ⟨hl, p1⟩ := p1.gd
  exact ⟨by rw [RpA.length m1]; exact hl, fun q hq => p1.laid o1.ex hq (.tup upd_same (RpA.mono (Ex.new (o1.ex.nn hq)) m1))⟩
theorem de_lst (h : PA X es (tAs c G fs)) : PE X (.List es pos) (tO c G (dLst fs)) := pe_imp (pe_lst h) fun σ H Q ⟨S0, H0, S, r, ok, p⟩ => rd_seq ok p fun ds vs S1 H1 w1 o1 m1 p1 => by
  obtain ⟨hl, p1⟩ := p1.gd
  exact ⟨by rw [RpA.length m1]; exact hl, fun q hq => (p1.anti w1.h).kept o1.ex hq (.lst m1)⟩
def CallS (c : Cf) (R : Md V D) (r : List V → Hp → VK → Prop) (ms : List Bool) (g : List D → Res D) : Prop := ∀ (σ : St) (S H : Hp) (vs : List V) (ds : List D) (Q : VK), Ex S H → RpM c S H ms vs ds →
  PostG c σ S H (g ds) (fun a S' H' => ∀ b, R H S' H' b a → Q b H') → r vs H Q
def dCall (g : List D → Res D) (fs : Rho → Res (List D)) : Rho → Res D := fun r => (fs r).bind g
theorem de_bltn {R : Md V D} [Anti R] {x : Str} {id : String} {ms : List Bool} {r : List V → Hp → VK → Prop} {g : List D → Res D} (hc : CallR X (.builtin id) r) (hs : CallS c R r ms g) (hg : Gl X x) (hm : X.mg x = none) (hv : bootBuiltins x = some (.builtin id)) (ha : PA X (e :: es) (tM c G ms fs))
    (hn : x ≠ "__name__" := by decide) (hdb : (x == ("__debug__" : Str)) = false := by decide) (he : starEach (e :: es) X.env = (false, eval e X.env) :: starEach es X.env := by rfl) (hpl : (backTo pos (starEach es X.env)).any (·.1) = false := by rfl) :
    PE X (.Call (.Name x p) (e :: es) [] pos) (rd c G (dCall g fs) R) := pe_imp (pe_callB hc hg hm hv ha hn hdb he hpl) fun σ H Q ⟨S0, H0, S, r, ok, p⟩ => rd_seq ok p fun ds vs S1 H1 w1 o1 m1 p1 => hs σ S1 H1 vs ds Q o1.ex m1 (p1.anti w1.h)
theorem de_type {R : Md V D} [Anti R] {x : Str} {T : String} {ms : List Bool} {r : List V → Hp → VK → Prop} {g : List D → Res D} (hc : CallR X (.type T) r) (hs : CallS c R r ms g) (hg : Gl X x) (hm : X.mg x = none) (hv : bootBuiltins x = some (.type T)) (ha : PA X (e :: es) (tM c G ms fs))
    (hn : x ≠ "__name__" := by decide) (hdb : (x == ("__debug__" : Str)) = false := by decide) (he : starEach (e :: es) X.env = (false, eval e X.env) :: starEach es X.env := by rfl) (hpl : (backTo pos (starEach es X.env)).any (·.1) = false := by rfl) :
    PE X (.Call (.Name x p) (e :: es) [] pos) (rd c G (dCall g fs) R) := pe_imp (pe_callTy hc hg hm hv ha hn hdb he hpl) fun σ H Q ⟨S0, H0, S, r, ok, p⟩ => rd_seq ok p fun ds vs S1 H1 w1 o1 m1 p1 => hs σ S1 H1 vs ds Q o1.ex m1 (p1.anti w1.h)
theorem RpM.one {S H : Hp} {vs : List V} {ds : List D} (h : RpM c S H [true] vs ds) : ∃ v d, vs = [v] ∧ ds = [d] ∧ RpB c.K c.cm S H v d := by
  match vs, ds, h with
  | [v], [d], h => exact ⟨v, d, rfl, rfl, h.1⟩
  | _ :: _ :: _, [_], h => exact h.2.elim
  | [_], _ :: _ :: _, h => exact h.2.elim
  | _ :: _ :: _, _ :: _ :: _, h => exact h.2.elim
  | [], _, h => exact h.elim
  | _ :: _, [], h => exact h.elim
/-- len -/
noncomputable def lenD : D → Res D
  | .str z => guard (z.length ≤ sizeLine) (.ok (.int z.length))
  | .lst ds => .ok (.int ds.length)
  | .fz ds => .ok (.int ds.length)
  | .tup ds => .ok (.int ds.length)
  | .kt ds => .ok (.int ds.length)
  | _ => .bad
def g1 (g : D → Res D) : List D → Res D
  | [d] => g d
  | _ => .bad
def g2 (g : D → D → Res D) : List D → Res D
  | [d, e] => g d e
  | _ => .bad
theorem cs_len : CallS c (mV c) (fun xs H Q => ∃ x n, xs = [x] ∧ LenV c.K x H n ∧ Q (.int n) H) [true] (g1 lenD) := by
  intro σ S H vs ds Q ex m p
  obtain ⟨v, d, rfl, rfl, h⟩ := m.one
  cases d with
  | str z =>
    obtain ⟨hl, p⟩ := p.gd
    cases h.str
    exact ⟨_, _, rfl, ⟨hl, rfl⟩, p.here ex (.int _)⟩
  | lst ds =>
    obtain ⟨q, xs, rfl, a1, r1⟩ := h.list ex
    exact ⟨_, _, rfl, .inl ⟨xs, .inl (.inl a1), r1.length.symm⟩, p.here ex (.int _)⟩
  | fz ds =>
    obtain ⟨q, xs, rfl, a1, r1⟩ := h.fz ex
    exact ⟨_, _, rfl, .inl ⟨xs, a1, r1.length.symm⟩, p.here ex (.int _)⟩
  | tup ds =>
    obtain ⟨q, xs, rfl, a1, r1, s1⟩ := h.tup ex
    exact ⟨_, _, rfl, .inr ⟨xs, a1, r1.length.symm⟩, p.here ex (.int _)⟩
  | kt ds =>
    obtain ⟨q, xs, rfl, a1, r1, s1⟩ := h.kt ex
    exact ⟨_, _, rfl, .inr ⟨xs, a1, r1.length.symm⟩, p.here ex (.int _)⟩
  | _ => exact p.elim
/-- int(..) -/
noncomputable def intD : D → Res D
  | .int i => .ok (.int i)
  | .bl k => .ok (.int (if k then 1 else 0))
  | .str a => match PySem.intText? a with
    | some n => guard (a.length ≤ 640) (.ok (.int n))
    | none => .bad
  | _ => .bad
def rIntX : List V → Hp → VK → Prop := fun xs H Q => ((∃ i, xs = [.int i] ∧ Q (.int i) H) ∨ ∃ k, xs = [.bl k] ∧ Q (.int (if k then 1 else 0)) H) ∨ ∃ a n, xs = [.str a] ∧ PySem.intText? a = some n ∧ a.length ≤ 640 ∧ Q (.int n) H
theorem cr_int : CallR X (.type "int") rIntX := call_int1.or call_int_str
theorem cs_int : CallS c (mV c) rIntX [true] (g1 intD) := by
  intro σ S H vs ds Q ex m p
  obtain ⟨v, d, rfl, rfl, h⟩ := m.one
  cases d with
  | int i => cases h.int; exact .inl (.inl ⟨_, rfl, p.here ex (.int _)⟩)
  | bl k => cases h.bl; exact .inl (.inr ⟨_, rfl, p.here ex (.int _)⟩)
  | str a =>
    cases h.str
    unfold g1 intD at p
    dsimp only at p
    split at p
    · rename_i n hn
      obtain ⟨hl, p⟩ := p.gd
      exact .inr ⟨_, n, rfl, hn, hl, p.here ex (.int _)⟩
    · exact p.elim
  | _ => exact p.elim
def absD : D → Res D
  | .int i => .ok (.int (if i < 0 then -i else i))
  | _ => .bad
/-- list(..), tuple(..) -/
def itemsL : D → Res (List D)
  | .lst ds => .ok ds
  | .fz ds => .ok ds
  | _ => .bad
def itemsT : D → Res (List D)
  | .tup ds => .ok ds
  | _ => .bad
def items : D → Res (List D)
  | .lst ds => .ok ds
  | .fz ds => .ok ds
  | .tup ds => .ok ds
  | _ => .bad
def listD (d : D) : Res D := match d with
  | .kt ds => .ok (.lst ds)
  | d => (items d).bind fun ds => .ok (.lst ds)
theorem cs_list : CallS c (mO c) (fun xs H Q => ∃ p ys, xs = [.ref p] ∧ (SqL c.K H p ys ∨ SqT c.K H p ys) ∧ ∀ l, H l = none → Q (.ref l) (upd H l (.lst ys))) [true] (g1 listD) := by
  intro σ S H vs ds Q ex m p
  obtain ⟨v, d, rfl, rfl, h⟩ := m.one
  cases d with
  | lst ds =>
    obtain ⟨q, xs, rfl, a1, r1⟩ := h.list ex
    exact ⟨q, xs, rfl, .inl (.inl (.inl a1)), fun l hl => p.kept ex hl (.lst r1)⟩
  | fz ds =>
    obtain ⟨q, xs, rfl, a1, r1⟩ := h.fz ex
    exact ⟨q, xs, rfl, .inl a1, fun l hl => p.kept ex hl (.lst r1)⟩
  | tup ds =>
    obtain ⟨q, xs, rfl, a1, r1, s1⟩ := h.tup ex
    exact ⟨q, xs, rfl, .inr a1, fun l hl => p.kept ex hl (.lst r1)⟩
  | kt ds =>
    obtain ⟨q, xs, rfl, a1, r1, s1⟩ := h.kt ex
    exact ⟨q, xs, rfl, .inr a1, fun l hl => p.kept ex hl (.lst r1)⟩
  | _ => exact p.elim
def tupleD (d : D) : Res D := (items d).bind fun ds => .ok (.tup ds)
theorem cs_tuple : CallS c (mV c) (fun xs H Q => ∃ p ys, xs = [.ref p] ∧ ((SqL c.K H p ys ∧ ∀ l, H l = none → Q (.ref l) (upd H l (.tup ys))) ∨ (SqT c.K H p ys ∧ Q (.ref p) H))) [true] (g1 tupleD) := by
  intro σ S H vs ds Q ex m p
  obtain ⟨v, d, rfl, rfl, h⟩ := m.one
  cases d with
  | lst ds =>
    obtain ⟨q, xs, rfl, a1, r1⟩ := h.list ex
    exact ⟨q, xs, rfl, .inl ⟨.inl (.inl a1), fun l hl => p.laid ex hl (.tup upd_same (r1.mono (Ex.new (ex.nn hl))))⟩⟩
  | fz ds =>
    obtain ⟨q, xs, rfl, a1, r1⟩ := h.fz ex
    exact ⟨q, xs, rfl, .inl ⟨a1, fun l hl => p.laid ex hl (.tup upd_same (r1.mono (Ex.new (ex.nn hl))))⟩⟩
  | tup ds =>
    obtain ⟨q, xs, rfl, a1, r1, s1⟩ := h.tup ex
    exact ⟨q, xs, rfl, .inr ⟨a1, p.here ex (.tup s1 r1)⟩⟩
  | _ => exact p.elim
/-- str(n), str(text) is not here: see part T -/
noncomputable def strD : D → Res D
  | .int i => guard (i.natAbs.log2 < 1920) (.ok (.str (toString i)))
  | _ => .bad
def tyN : D → Option String
  | .non => some "NoneType"
  | .bl _ => some "bool"
  | .int _ => some "int"
  | .str _ => some "str"
  | .lst _ => some "list"
  | .fz _ => some "list"
  | .tup _ => some "tuple"
  | .kt _ => some "tuple"
  | .dk _ _ => some "dict"
  | .dt _ _ => none
  | .dn _ _ => none
  | .obj _ _ _ => none
  | .own _ => none
  | .st _ _ => none
def isiD (T : String) (d : D) : Res D := match tyN d with
  | some n => match kitB n T with
    | some b => .ok (.bl b)
    | none => .bad
  | none => .bad
theorem RpB.ty {K : PySem.W.Frag} {cm : CM} {S H : Hp} {v : V} {d : D} {n : String} (h : RpB K cm S H v d) (ex : Ex S H) (q : tyN d = some n) : TyX K H v (.type n) := by
  cases d with
  | non => cases h.non; cases q; exact .base .non
  | bl b => cases h.bl; cases q; exact .base (.bl b)
  | int i => cases h.int; cases q; exact .base (.int i)
  | str s => cases h.str; cases q; exact .base (.str s)
  | lst ds => obtain ⟨p, xs, rfl, a, r⟩ := h.list ex; cases q; exact .base (.lst a)
  | fz ds =>
    obtain ⟨p, xs, rfl, a, r⟩ := h.fz ex; cases q
    rcases a with (a | ⟨o, a⟩) | ⟨o, its, m, a1, a2, _⟩
    · exact .base (.lst a)
    · exact .base (.frz a)
    · exact .kList a1 a2
  | tup ds =>
    obtain ⟨p, xs, rfl, a, r, s⟩ := h.tup ex; cases q
    rcases a with (a | ⟨o, a⟩) | ⟨o, its, m, a1, a2, _⟩
    · exact .base (.tup a)
    · exact .fTuple a
    · exact .kTuple a1 a2
  | dk ks vs =>
    obtain ⟨p, xs, rfl, a, r⟩ := h.dk ex; cases q
    rcases a with a | ⟨o, a⟩
    · exact .base (.dK a)
    · exact .fDict a
  | dt ks vs => cases q
  | dn ks vs => cases q
  | kt ds =>
    obtain ⟨p, xs, rfl, a, r, s⟩ := h.kt ex; cases q
    rcases a with (a | ⟨o, a⟩) | ⟨o, its, m, a1, a2, _⟩
    · exact .base (.tup a)
    · exact .fTuple a
    · exact .kTuple a1 a2
  | obj n ns vs => cases q
  | own k => cases q
  | st k M => cases q
/-- the class's name is a built-in's that stands as it was -/
theorem de_isi {x : Str} {pT : Pos} (T : String) (hm : X.mg "isinstance" = none) (hg : Gl X "isinstance") (gT : Gl X x) (mT : X.mg x = none) (bT : bootBuiltins x = some (.type T)) (ha : PE X e (tR c G f)) (hK : c.K = X.K := by rfl)
    (hn : x ≠ "__name__" := by decide) (hd : (x == ("__debug__" : Str)) = false := by decide)
    (hs1 : starEach [e, .Name x pT] X.env = (false, eval e X.env) :: starEach [.Name x pT] X.env := by rfl) (hs2 : starEach [.Name x pT] X.env = (false, eval (.Name x pT) X.env) :: starEach [] X.env := by rfl) (hpl : (backTo pos (starEach [.Name x pT] X.env)).any (·.1) = false := by rfl) :
    PE X (.Call (.Name "isinstance" p) [e, .Name x pT] [] pos) (tV c G (dUn (isiD T) f)) := by
  have hT : PE X (.Name x pT) (tC (.ty T)) := pe_bltn gT mT bT rfl hn hd
  refine pe_imp (pe_callB call_isi hg hm (by decide +kernel) (pa_cons ha (pa_cons hT pa_nil hs2) hs1) (he := hs1) (hpl := hpl)) fun σ H Q ⟨S0, H0, S, r, ok, p⟩ => rd_seq ok p fun d v S1 H1 w1 o1 m1 p1 => ?_
  unfold isiD at p1
  split at p1
  · rename_i n hn
    split at p1
    · rename_i b hb
      exact ⟨v, .ty T, .type n, .type T, b, rfl, .ty T, by rw [← hK]; exact RpB.ty m1 o1.ex hn, kit_ty hb, p1.go o1.ex _ (.bl _)⟩
    · exact p1.elim
  · exact p1.elim
noncomputable def ixD : D → D → Res D
  | .lst ds, .int i => match atI ds i with
    | some d => .ok d
    | none => .bad
  | .fz ds, .int i => match atI ds i with
    | some d => .ok d
    | none => .bad
  | .tup ds, .int i => match atI ds i with
    | some d => .ok d
    | none => .bad
  | .kt ds, .int i => match atI ds i with
    | some d => .ok d
    | none => .bad
  | .str z, .int i => guard (z.length ≤ sizeLine) (match atI z.cps.toList i with
    | some n => .ok (.str ⟨#[n]⟩)
    | none => .bad)
  | _, _ => .bad
theorem RpA.atI {K : PySem.W.Frag} {cm : CM} {S : Hp} {xs : List V} {ds : List D} {i : Int} {d : D} (h : RpA K cm S xs ds) (q : atI ds i = some d) : ∃ v, L2.atI xs i = some v ∧ Rp K cm S v d := by
  unfold L2.atI at q ⊢
  rw [h.length]
  cases hj : ixN ds.length i with
  | none => rw [hj] at q; cases q
  | some j => rw [hj] at q; exact h.get q
theorem os_ix : OpS c (mV c) (rIx c.K) ixD := by
  intro σ S H x y d e Q ex hx hy p
  unfold ixD at p
  split at p
  · split at p
    · rename_i hd
      obtain ⟨q, xs, rfl, a1, r1⟩ := hx.list ex
      cases hy.int
      obtain ⟨v, h1, h2⟩ := r1.atI hd
      exact .inl ⟨q, xs, _, v, rfl, rfl, .inl (.inl a1), h1, p.here ex h2⟩
    · exact p.elim
  · split at p
    · rename_i hd
      obtain ⟨q, xs, rfl, a1, r1⟩ := hx.fz ex
      cases hy.int
      obtain ⟨v, h1, h2⟩ := r1.atI hd
      exact .inl ⟨q, xs, _, v, rfl, rfl, a1, h1, p.here ex h2⟩
    · exact p.elim
  · split at p
    · rename_i hd
      obtain ⟨q, xs, rfl, a1, r1, s1⟩ := hx.tup ex
      cases hy.int
      obtain ⟨v, h1, h2⟩ := r1.atI hd
      exact .inr (.inl ⟨q, xs, _, v, rfl, rfl, a1, h1, p.here ex h2⟩)
    · exact p.elim
  · split at p
    · rename_i hd
      obtain ⟨q, xs, rfl, a1, r1, s1⟩ := hx.kt ex
      cases hy.int
      obtain ⟨v, h1, h2⟩ := r1.atI hd
      exact .inr (.inl ⟨q, xs, _, v, rfl, rfl, a1, h1, p.here ex h2⟩)
    · exact p.elim
  · obtain ⟨hl, p⟩ := p.gd
    cases hx.str; cases hy.int
    split at p
    · rename_i hd
      exact .inr (.inr ⟨_, _, _, rfl, rfl, hl, hd, p.here ex (.str _)⟩)
    · exact p.elim
  · exact p.elim
theorem de_ix (ha : PE X a (tR c G f1)) (hb : PE X b (tR c G f2)) (hs : PlainIx b) (hK : c.K = X.K := by rfl) : PE X (.Subscript a b pos) (tV c G (dOp ixD f1 f2)) :=
  pe_imp (pe_ix ix_seq ha hb hs) (by rw [← hK]; exact op_rd os_ix)
def cutL {α : Type} (xs : List α) (lo hi : Option Int) : List α := (xs.drop (HT.sIx xs.length 0 lo)).take (HT.sIx xs.length xs.length hi - HT.sIx xs.length 0 lo)
def asI : D → Res Int
  | .int i => .ok i
  | _ => .bad
def dNoP : Rho → Res (Option Int) := fun _ => .ok none
def dPart (f : Rho → Res D) : Rho → Res (Option Int) := fun r => (f r).bind fun d => (asI d).bind fun i => .ok (some i)
theorem po_imp {oe : Option Expr} {t t' : TO} (h : PO X oe t) (k : ∀ σ H Q, t' σ H Q → t σ H Q) : PO X oe t' := ⟨fun pins s σ H Q I q => h.run pins s σ H Q I (k σ H Q q)⟩
abbrev tP (c : Cf) (G : List Ow) (f : Rho → Res (Option Int)) : TO := rd c G f (mE (Option Int))
theorem dp_none : PO X none (tP c G dNoP) := po_imp po_none fun σ H Q ⟨S0, H0, S, r, ok, p⟩ => p.go ok.ex _ rfl
theorem of_asI {σ : St} {S H : Hp} {d : D} {k : Int → Hp → Hp → Prop} (p : PostG c σ S H (asI d) k) : ∃ i, d = .int i ∧ PostG c σ S H (.ok i) k := by
  cases d with
  | int i => exact ⟨i, rfl, p⟩
  | _ => exact p.elim
theorem dp_some (h : PE X e (tV c G f)) : PO X (some e) (tP c G (dPart f)) := po_imp (po_some h) fun σ H Q ⟨S0, H0, S, r, ok, p⟩ => rd_seq ok p fun d v S1 H1 w1 o1 m1 p1 => by
  obtain ⟨i, rfl, q1⟩ := of_asI p1.unbind
  cases m1
  exact ⟨i, rfl, (q1.go o1.ex).go o1.ex _ rfl⟩
variable {fl fh : Rho → Res (Option Int)} {lo hi : Option Expr} {p2 : Pos}
noncomputable def slD (d : D) (lo hi : Option Int) : Res D := match d with
  | .lst ds => .ok (.lst (cutL ds lo hi))
  | .fz ds => .ok (.lst (cutL ds lo hi))
  | .tup ds => .ok (.tup (cutL ds lo hi))
  | .str z => guard (z.length ≤ sizeLine) (.ok (.str (cutS z lo hi)))
  | _ => .bad
def dSl (g : D → Option Int → Option Int → Res D) (f : Rho → Res D) (fl fh : Rho → Res (Option Int)) : Rho → Res D := fun r => (f r).bind fun d => (fl r).bind fun l => (fh r).bind fun h => g d l h
def rSlX (K : PySem.W.Frag) : V → Option Int → Option Int → Hp → VK → Prop := fun x lo hi H Q => rSlL K x lo hi H Q ∨ rSlA K x lo hi H Q ∨ rSlS x lo hi H Q
theorem sl_x : SlR X (rSlX X.K) := sl_list.or (sl_tupA.or sl_str)
theorem RpA.cut {K : PySem.W.Frag} {cm : CM} {S : Hp} {xs : List V} {ds : List D} {lo hi : Option Int} (h : RpA K cm S xs ds) : RpA K cm S (cutV xs lo hi) (cutL ds lo hi) := by
  unfold cutV cutL
  rw [h.length]
  exact (h.drop _).take _
theorem cutV_whole {xs : List V} {lo hi : Option Int} (h : HT.sIx xs.length 0 lo = 0 ∧ HT.sIx xs.length xs.length hi = xs.length) : cutV xs lo hi = xs := by
  unfold cutV
  rw [h.1, h.2]
  simp
theorem de_sl (ha : PE X a (tR c G f)) (hl : PO X lo (tP c G fl)) (hh : PO X hi (tP c G fh)) (hK : c.K = X.K := by rfl) : PE X (.Subscript a (.Slice lo hi none p2) pos) (tV c G (dSl slD f fl fh)) :=
  pe_imp (pe_slice sl_x ha hl hh) fun σ H Q ⟨S0, H0, S, r, ok, p⟩ => rd_seq ok p fun d v S1 H1 w1 o1 m1 p1 => rd_seq o1 p1 fun l l' S2 H2 w2 o2 m2 p2 => rd_seq o2 p2 fun h h' S3 H3 w3 o3 m3 p3 => by
    have m1 := RpB.mono m1 (w2.s.trans w3.s) (w2.h.trans w3.h)
    rw [show l' = l from m2, show h' = h from m3, ← hK]
    cases d with
    | lst ds =>
      obtain ⟨q, xs, rfl, a1, r1⟩ := m1.list o3.ex
      exact .inl ⟨q, xs, rfl, .inl (.inl a1), fun q hq => PostG.laid p3 o3.ex hq (.lst upd_same (r1.cut.mono (Ex.new (o3.ex.nn hq))))⟩
    | fz ds =>
      obtain ⟨q, xs, rfl, a1, r1⟩ := m1.fz o3.ex
      exact .inl ⟨q, xs, rfl, a1, fun q hq => PostG.laid p3 o3.ex hq (.lst upd_same (r1.cut.mono (Ex.new (o3.ex.nn hq))))⟩
    | tup ds =>
      obtain ⟨q, xs, rfl, a1, r1, s1⟩ := m1.tup o3.ex
      refine .inr (.inl ⟨q, xs, rfl, a1, fun hw => p3.go o3.ex _ (.tup s1 ?_), fun _ q hq => PostG.laid p3 o3.ex hq (.tup upd_same (r1.cut.mono (Ex.new (o3.ex.nn hq))))⟩)
      have := r1.cut (lo := l) (hi := h)
      rw [cutV_whole hw] at this
      exact this
    | str z =>
      obtain ⟨hl, p3⟩ := p3.gd
      cases m1.str
      exact .inr (.inr ⟨z, rfl, hl, p3.go o3.ex _ (.str _)⟩)
    | _ => exact p3.elim
/-- a slice of a list, the new list one's own -/
def slL (d : D) (lo hi : Option Int) : Res D := match d with
  | .lst ds => .ok (.lst (cutL ds lo hi))
  | .fz ds => .ok (.lst (cutL ds lo hi))
  | _ => .bad
end
end Dx
end S_DxD
section S_DxE
set_option Elab.async false
set_option linter.all false
set_option maxRecDepth 100000
set_option maxHeartbeats 2000000
namespace Dx
open PySem L2
/-- what is wanted behind a statement -/
def PostS (c : Cf) (S0 H0 : Hp) (L G' : List Ow) (o : SR) (E : Ends) : Prop :=
  match o with
  | .nx r => ∀ σ' S' H', EnvOk c S0 H0 G' S' H' σ' r → E.nx σ' H'
  | .rt d => if c.rm then ∀ p ho S' H', Fwd S0 H0 S' H' → H0 p = none → S' p = none → H' p = some ho → RpO c.K c.cm S' ho d → E.rt (.ref p) H'
      else ∀ v S' H', Fwd S0 H0 S' H' → Rp c.K c.cm S' v d → E.rt v H'
  | .bk r => ∀ σ' S' H', EnvOk c S0 H0 L S' H' σ' r → E.bk σ' H'
  | .ct r => ∀ σ' S' H', EnvOk c S0 H0 L S' H' σ' r → E.ct σ' H'
  | .er r n ns vs => ∀ C dd σ' S' H' fs, c.cm n = some C → Fwd S0 H0 S' H' → (∀ g, c.ge = some g → EnvOk c S0 H0 g S' H' σ' r) → S' dd = some (.xd fs) → ns = fs.map (·.1) → RpA c.K c.cm S' (fs.map (·.2)) vs → c.W (.ref C) (some dd) σ' H'
  | .bad => False
def sD (c : Cf) (L G G' : List Ow) (F : Rho → SR) : TS := fun E σ H => ∃ S0 H0 S r, EnvOk c S0 H0 G S H σ r ∧ PostS c S0 H0 L G' (F r) E
def liftS {α : Type} (r : Rho) (x : Res α) (k : α → SR) : SR := match x with
  | .ok a => k a
  | .err n ns vs => .er r n ns vs
  | .bad => .bad
/-- where a try's clauses ask for the slots, the kinds are the ones told -/
def Gok (c : Cf) (G : List Ow) : Prop := ∀ g, c.ge = some g → g = G
section
variable {X : Cx} {c : Cf} {L G G' G'' : List Ow} {σ : St} {S0 H0 S H : Hp} {r : Rho} {α β : Type} {E : Ends}
theorem st_seq {f : Rho → Res α} {R : Md β α} (hg : Gok c G) (e : EnvOk c S0 H0 G S H σ r) {k : α → SR} (p : PostS c S0 H0 L G' (liftS r (f r) k) E) {Q : β → Hp → Prop}
    (h : ∀ a b S' H', Fwd S H S' H' → EnvOk c S0 H0 G S' H' σ r → R H S' H' b a → PostS c S0 H0 L G' (k a) E → Q b H') : rd c G f R σ H Q := by
  refine ⟨S0, H0, S, r, e, ?_⟩
  cases hf : f r with
  | ok a => rw [hf] at p; exact fun S' H' fw b hb => h a b S' H' fw (e.go fw) hb p
  | err n ns vs =>
    rw [hf] at p
    exact fun C dd S' H' fs h1 fw h2 h3 h4 => p C dd σ S' H' fs h1 (e.fwd.trans fw) (fun g q => by rw [hg g q]; exact e.go fw) h2 h3 h4
  | bad => rw [hf] at p; exact p.elim
/-- the stable part as the new base -/
theorem EnvOk.rebase (e : EnvOk c S0 H0 G S H σ r) : EnvOk c S H0 G S H σ r := ⟨⟨Ex.refl, e.fwd.h, e.fwd.sub, fun a o h n => (by rw [n] at h; cases h), e.fwd.tb⟩, e.len, e.slot, e.sep, e.sto⟩
theorem Fwd.unbase {S' H' : Hp} (f : Fwd S0 H0 S H) (g : Fwd S H0 S' H') : Fwd S0 H0 S' H' := ⟨f.s.trans g.s, g.h, g.sub, fun a o h n => (by
  cases q : S a with
  | some u => exact f.new a u q n
  | none => exact g.new a o h q), g.tb⟩
theorem EnvOk.unbase {S' H' : Hp} {σ' : St} {r' : Rho} (f : Fwd S0 H0 S H) (e : EnvOk c S H0 G' S' H' σ' r') : EnvOk c S0 H0 G' S' H' σ' r' := ⟨f.unbase e.fwd, e.len, e.slot, e.sep, e.sto⟩
theorem PostS.rebase {o : SR} (f : Fwd S0 H0 S H) (p : PostS c S0 H0 L G' o E) : PostS c S H0 L G' o E := by
  cases o with
  | nx r => exact fun σ' S' H' e => p σ' S' H' (e.unbase f)
  | rt d =>
    unfold PostS at p ⊢
    dsimp only at p ⊢
    split
    · rename_i h
      rw [if_pos h] at p
      exact fun q ho S' H' w => p q ho S' H' (f.unbase w)
    · rename_i h
      rw [if_neg h] at p
      exact fun v S' H' w => p v S' H' (f.unbase w)
  | bk r => exact fun σ' S' H' e => p σ' S' H' (e.unbase f)
  | ct r => exact fun σ' S' H' e => p σ' S' H' (e.unbase f)
  | er r n ns vs => exact fun C dd σ' S' H' fs h1 w h2 => p C dd σ' S' H' fs h1 (f.unbase w) fun g q => (h2 g q).unbase f
  | bad => exact p
def seqF (F K : Rho → SR) : Rho → SR := fun r => match F r with
  | .nx r' => K r'
  | o => o
theorem ds_nil : PSs X [] (sD c L G G .nx) := pss_imp pss_nil fun E σ H ⟨S0, H0, S, r, ok, p⟩ => p σ S H ok
theorem ds_cons {st : Stmt} {rest : List Stmt} {F K : Rho → SR} (h1 : PS X st (sD c L G G' F)) (h2 : PSs X rest (sD c L G' G'' K)) : PSs X (st :: rest) (sD c L G G'' (seqF F K)) := pss_imp (pss_cons h1 h2) fun E σ H ⟨S0, H0, S, r, ok, p⟩ => by
  refine ⟨S0, H0, S, r, ok, ?_⟩
  unfold seqF at p
  cases hF : F r with
  | nx r' => rw [hF] at p; exact fun σ' S' H' e => ⟨S0, H0, S', r', e, p⟩
  | rt d => rw [hF] at p; exact p
  | bk r' => rw [hF] at p; exact p
  | ct r' => rw [hF] at p; exact p
  | er r' n ns vs => rw [hF] at p; exact p
  | bad => rw [hF] at p; exact p.elim
theorem ds_one {st : Stmt} {F : Rho → SR} (h1 : PS X st (sD c L G G' F)) : PSs X [st] (sD c L G G' F) := pss_one h1
/-- an own object becomes a value, ahead of a block; behind one -/
theorem EnvOk.pubL (e : EnvOk c S0 H0 G S H σ r) (i : Nat) (hk : kd G i = .o ∨ kd G i = .v) : Lo (fun H => ∃ S', EnvOk c S0 H0 (G.set i .v) S' H σ r) H := by
  by_cases h : kd G i = .o ∧ ∃ d, r[i]? = some (some d) ∧ isDct d = true
  · obtain ⟨k, d, h1, h2⟩ := h
    exact .inr (e.pubD i k h1 h2)
  · by_cases k : kd G i = .o
    · exact .inl (e.pub i hk fun d hd => by
        cases q : isDct d with
        | false => rfl
        | true => exact (h ⟨k, d, hd, q⟩).elim)
    · have k' : kd G i = .v := hk.resolve_left k
      have all : ∀ j, kd (G.set i .v) j = kd G j := fun j => by
        by_cases ne : i = j
        · subst ne; rw [kd_set_self, k']
        · exact kd_set_ne ne
      exact .inl ⟨S, e.fwd, e.len, fun j b hb => by rw [all]; exact e.slot j b hb, fun j l b b' q hj hk kj kk sj sk => e.sep j l b b' q hj hk ((all j) ▸ kj) ((all l) ▸ kk) sj sk, e.sto_un i hk⟩
theorem Lo.imp {Q R : Hp → Prop} {H : Hp} (h : Lo Q H) (k : ∀ H, Q H → R H) : Lo R H := by
  rcases h with h | ⟨p, u, h1, h2, h⟩
  · exact .inl (k _ h)
  · exact .inr ⟨p, u, h1, h2, fun w => k _ (h w)⟩
theorem ds_pub {sts : List Stmt} {F : Rho → SR} (i : Nat) (h : PSs X sts (sD c L (G.set i .v) G' F)) (hk : kd G i = .o ∨ kd G i = .v) : PSs X sts (sD c L G G' F) := pss_lock h fun E σ H ⟨S0, H0, S, r, ok, p⟩ =>
  (ok.pubL i hk).imp fun H' ⟨S', ok'⟩ => ⟨S0, H0, S', r, ok', p⟩
theorem ds_pubE {sts : List Stmt} {F : Rho → SR} (i : Nat) (h : PSs X sts (sD c L G G' F)) (hk : kd G' i = .o ∨ kd G' i = .v) : PSs X sts (sD c L G (G'.set i .v) F) := pss_lockE h fun E σ H ⟨S0, H0, S, r, ok, p⟩ => by
  refine ⟨S0, H0, S, r, ok, ?_⟩
  cases hF : F r with
  | nx r' =>
    rw [hF] at p
    exact fun σ' S' H' e => (e.pubL i hk).imp fun H'' ⟨S'', e'⟩ => p σ' S'' H'' e'
  | rt d => rw [hF] at p; exact p
  | bk r' => rw [hF] at p; exact p
  | ct r' => rw [hF] at p; exact p
  | er r' n ns vs => rw [hF] at p; exact p
  | bad => rw [hF] at p; exact p.elim
variable {e : Expr} {pos : Pos} {f : Rho → Res D}
def setF (i : Nat) (f : Rho → Res D) : Rho → SR := fun r => liftS r (f r) fun d => .nx (r.set i (some d))
/-- x = e -/
theorem ds_set (i : Nat) {x : Str} {pos' : Pos} (hg : Gok c G) (hN : X.N.Nodup) (hi : X.N[i]? = some x) (hx : Loc X.env.scope x) (he : PE X e (tV c G f)) (hs : swapsWith e (some (.Name x pos')) pos.line X.env = pure false := by rfl)
    (hf : X.fn x = true ∨ X.env.scope.names.lookup x = some .local := by first | exact .inl rfl | exact .inr rfl | assumption) : PS X (.Assign [.Name x pos'] e pos) (sD c L G (G.set i .v) (setF i f)) :=
  ps_imp (ps_set hN hi hx he hs hf) fun E σ H ⟨S0, H0, S, r, ok, p⟩ => st_seq hg ok p fun d v S1 H1 w1 o1 m1 p1 => p1 _ S1 H1 (o1.setV i m1)
/-- x = e, a new object of one's own -/
theorem ds_setO (i : Nat) {x : Str} {pos' : Pos} (hg : Gok c G) (hG : i < G.length) (hN : X.N.Nodup) (hi : X.N[i]? = some x) (hx : Loc X.env.scope x) (he : PE X e (tO c G f)) (hs : swapsWith e (some (.Name x pos')) pos.line X.env = pure false := by rfl)
    (hf : X.fn x = true ∨ X.env.scope.names.lookup x = some .local := by first | exact .inl rfl | exact .inr rfl | assumption) : PS X (.Assign [.Name x pos'] e pos) (sD c L G (G.set i .o) (setF i f)) :=
  ps_imp (ps_set hN hi hx he hs hf) fun E σ H ⟨S0, H0, S, r, ok, p⟩ => st_seq hg ok p fun d v S1 H1 w1 o1 m1 p1 => by
    obtain ⟨q, ho, rfl, n, ns, hp, h⟩ := m1
    exact p1 _ S1 H1 (ok.setO w1 i hG n ns hp h)
def retF (f : Rho → Res D) : Rho → SR := fun r => liftS r (f r) .rt
theorem ds_ret (hg : Gok c G) (hr : c.rm = false) (he : PE X e (tV c G f)) : PS X (.Return (some e) pos) (sD c L G G' (retF f)) := ps_imp (ps_ret he) fun E σ H ⟨S0, H0, S, r, ok, p⟩ => st_seq hg ok p fun d v S1 H1 w1 o1 m1 p1 => by
  unfold PostS at p1
  rw [hr] at p1
  exact p1 v S1 H1 o1.fwd m1
/-- return x, x an own object -/
theorem ds_retI (i : Nat) {x : Str} {pos' : Pos} (hr : c.rm = true) (k : kd G i = .o) (he : PE X (.Name x pos') (tVar i)) : PS X (.Return (some (.Name x pos')) pos) (sD c L G G' (retF (dVar i))) := ps_imp (ps_ret he) fun E σ H ⟨S0, H0, S, r, ok, p⟩ => by
  unfold retF dVar at p
  split at p
  · rename_i d hd
    obtain ⟨q, ho, s1, s2, s3, s4, s5⟩ := ok.own k hd
    unfold liftS PostS at p
    dsimp only at p
    rw [hr] at p
    exact ⟨.ref q, s1, p q ho S H ok.fwd s4 s3 s2 s5⟩
  · exact p.elim
def dropF {α : Type} (f : Rho → Res α) : Rho → SR := fun r => liftS r (f r) fun _ => .nx r
def ifF (t : Rho → Res Bool) (F K : Rho → SR) : Rho → SR := fun r => liftS r (t r) fun b => if b = true then F r else K r
theorem ds_if {cnd : Expr} {sa sb : List Stmt} {t : Rho → Res Bool} {F K : Rho → SR} (hg : Gok c G) (hc : PT X cnd (tT c G t)) (ha : PSs X sa (sD c L G G' F)) (hb : PSs X sb (sD c L G G' K)) : PS X (.If cnd sa sb pos) (sD c L G G' (ifF t F K)) :=
  ps_imp (ps_if hc ha hb) fun E σ H ⟨S0, H0, S, r, ok, p⟩ => st_seq hg ok p fun x v S1 H1 w1 o1 m1 p1 => by
    rw [show v = x from m1]
    cases x with
    | true => exact ⟨S0, H0, S1, r, o1, p1⟩
    | false => exact ⟨S0, H0, S1, r, o1, p1⟩
variable {a b : Expr} {f1 f2 : Rho → Res D} {apos cpos p' : Pos}
/-- the own list in slot i -/
def ownL (i : Nat) (r : Rho) : Res (List D) := match r[i]? with
  | some (some (.lst ds)) => .ok ds
  | _ => .bad
theorem of_ownL {i : Nat} {k : List D → SR} (e : EnvOk c S0 H0 G S H σ r) (kd' : kd G i = .o) (p : PostS c S0 H0 L G' (liftS r (ownL i r) k) E) :
    ∃ q xs ds, r[i]? = some (some (.lst ds)) ∧ σ[i]? = some (some (.ref q)) ∧ H q = some (.lst xs) ∧ RpA c.K c.cm S xs ds ∧ PostS c S0 H0 L G' (k ds) E := by
  unfold ownL at p
  split at p
  · rename_i ds hd
    obtain ⟨q, ho, s1, s2, s3, s4, s5⟩ := e.own kd' hd
    cases s5 with
    | lst r1 => exact ⟨q, _, ds, hd, s1, s2, r1, p⟩
  · exact p.elim
noncomputable def guardS (p : Prop) (x : SR) : SR := @ite _ p (Classical.propDecidable p) x .bad
theorem guardS_pos {p : Prop} {x : SR} (h : p) : guardS p x = x := by unfold guardS; exact if_pos h
noncomputable def appF (i : Nat) (f : Rho → Res D) : Rho → SR := fun r => liftS r (ownL i r) fun ds => liftS r (f r) fun d => guardS (ds.length < sizeLine) (.nx (r.set i (some (.lst (ds ++ [d])))))
theorem PostS.ite {p : Prop} [Decidable p] {x : SR} (h : PostS c S0 H0 L G' (if p then x else .bad) E) : p ∧ PostS c S0 H0 L G' x E := by
  by_cases hp : p
  · rw [if_pos hp] at h; exact ⟨hp, h⟩
  · rw [if_neg hp] at h; exact h.elim
theorem PostS.gd {p : Prop} {x : SR} (h : PostS c S0 H0 L G' (guardS p x) E) : p ∧ PostS c S0 H0 L G' x E := by
  by_cases hp : p
  · rw [guardS_pos hp] at h; exact ⟨hp, h⟩
  · unfold guardS at h; rw [if_neg hp] at h; exact h.elim
theorem pe_app {o : Expr} {to te : TE} (ho : PE X o to) (he : PE X e te) (hbase : attributeBase o "append" X.env (eval o X.env) = eval o X.env := by rfl)
    (hfew : ((backTo cpos (starEach [e] X.env)).all (fun x => !x.1) && (backToKw cpos (keywordEach [] X.env)).all (fun x => x.1.isSome) && decide ([e].length + ([] : List Keyword).length + (if ([] : List Keyword).isEmpty then 0 else 1) < 30)) = true := by rfl)
    (hline : (apos.endLine == cpos.line) = true := by rfl) (hs : starEach [e] X.env = (false, eval e X.env) :: starEach [] X.env := by rfl) :
    PE X (.Call (.Attribute o "append" apos) [e] [] cpos) (tBM X.K "list" rAppend to (tCons te tNil)) :=
  pe_bm PySem.F.plainAttrs_list PySem.F.slot_list_append PySem.F.type_list_append mt_append ho (pa_cons he pa_nil hs) hbase hfew hline hs rfl
theorem ds_app (i : Nat) {x : Str} {pn : Pos} (hg : Gok c G) (k : kd G i = .o) (ho : PE X (.Name x pn) (tVar i)) (he : PE X e (tV c G f)) (hw : swapsWith (.Call (.Attribute (.Name x pn) "append" apos) [e] [] cpos) none pos.line X.env = pure false := by rfl)
    (hbase : attributeBase (.Name x pn) "append" X.env (eval (.Name x pn) X.env) = eval (.Name x pn) X.env := by rfl)
    (hfew : ((backTo cpos (starEach [e] X.env)).all (fun x => !x.1) && (backToKw cpos (keywordEach [] X.env)).all (fun x => x.1.isSome) && decide ([e].length + ([] : List Keyword).length + (if ([] : List Keyword).isEmpty then 0 else 1) < 30)) = true := by rfl)
    (hline : (apos.endLine == cpos.line) = true := by rfl) (hs : starEach [e] X.env = (false, eval e X.env) :: starEach [] X.env := by rfl) :
    PS X (.Expr (.Call (.Attribute (.Name x pn) "append" apos) [e] [] cpos) pos) (sD c L G G (appF i f)) :=
  ps_imp (ps_expr (pe_app ho he hbase hfew hline hs) hw) fun E σ H ⟨S0, H0, S, r, ok, p⟩ => by
    obtain ⟨q, xs, ds, hd, z1, z2, z3, p1⟩ := of_ownL ok k p
    refine ⟨.ref q, z1, .inl ⟨rfl, xs, .inl (.inl z2)⟩, st_seq hg ok p1 fun d v S1 H1 w1 o1 m1 p2 => ?_⟩
    obtain ⟨hl, p2⟩ := p2.gd
    exact ⟨q, xs, v, rfl, rfl, w1.h _ _ z2, by rw [z3.length]; exact hl, p2 σ S1 _ (o1.mut k hd z1 (.lst ((z3.mono w1.s).app (.one m1))))⟩
/-- x[i] = e, x an own list -/
def stoF (i : Nat) (fi f : Rho → Res D) : Rho → SR := fun r => liftS r (f r) fun d => liftS r (ownL i r) fun ds => liftS r (fi r) fun k => liftS r (asI k) fun k => match ixN ds.length k with
  | some j => .nx (r.set i (some (.lst (ds.set j d))))
  | none => .bad
theorem ds_sto (i : Nat) {x : Str} {pn : Pos} {ix : Expr} {fi : Rho → Res D} (hg : Gok c G) (k : kd G i = .o) (ho : PE X (.Name x pn) (tVar i)) (hi : PE X ix (tV c G fi)) (he : PE X e (tV c G f))
    (ha : ∀ v, assign (.Subscript (.Name x pn) ix p') X.env v = (do
      let ov ← holding [v] (eval (.Name x pn) X.env)
      let iv ← holding [v, ov] (eval ix X.env)
      standAt p'
      holding [v, ov, iv] (setItem ov iv v)
      release [v, ov, iv] []) := by intro _; rfl)
    (hs : swapsWithSole [.Subscript (.Name x pn) ix p'] e pos.line X.env = pure false := by rfl) (hw : swappedStores [.Subscript (.Name x pn) ix p'] e X.env = pure none := by rfl)
    (h1 : (assignEach [.Subscript (.Name x pn) ix p'] X.env).map (·.2) = [assign (.Subscript (.Name x pn) ix p') X.env] := by rfl) :
    PS X (.Assign [.Subscript (.Name x pn) ix p'] e pos) (sD c L G G (stoF i fi f)) :=
  ps_imp (ps_asg he (pg_sub ho hi set_list ha) hs hw h1) fun E σ H ⟨S0, H0, S, r, ok, p⟩ => st_seq hg ok p fun d v S1 H1 w1 o1 m1 p1 => by
    obtain ⟨q, xs, ds, hd, z1, z2, z3, p2⟩ := of_ownL o1 k p1
    refine ⟨.ref q, z1, st_seq hg o1 p2 fun kk u S2 H2 w2 o2 m2 p3 => ?_⟩
    cases kk with
    | int j =>
      cases m2
      dsimp only [asI, liftS] at p3
      split at p3
      · rename_i n hn
        refine ⟨q, xs, j, n, rfl, rfl, w2.h _ _ z2, by rw [z3.length]; exact hn, p3 σ S2 _ (o2.mut k hd z1 (.lst (RpA.set (Rp.mono w2.s m1) n (z3.mono w2.s))))⟩
      · exact p3.elim
    | _ => exact p3.elim
/-- what is wanted behind a target -/
def PostR (c : Cf) (S0 H0 S H : Hp) (G' : List Ow) (σ : St) (ks : List Nat) (x : Res Rho) (Q : St → Hp → Prop) : Prop := match x with
  | .ok r' => ∀ σ', wipe σ' ks = wipe σ ks → EnvOk c S0 H0 G' S H σ' r' → Q σ' H
  | _ => False
theorem wipe_get (σ : St) : ∀ (vs : List Nat) (i : Nat), (wipe σ vs)[i]? = if i ∈ vs then σ[i]?.map (fun _ => none) else σ[i]?
  | [], i => by simp [wipe]
  | v :: vs, i => by
    show ((wipe σ vs).set v none)[i]? = _
    by_cases h : v = i
    · subst h
      rw [List.getElem?_set, if_pos rfl, wipe_length, if_pos (List.mem_cons_self)]
      split
      · rename_i hl; simp [List.getElem?_eq_getElem hl]
      · rename_i hl; rw [List.getElem?_eq_none (by omega)]; rfl
    · rw [List.getElem?_set_ne h, wipe_get σ vs i]
      have : (i ∈ v :: vs) ↔ i ∈ vs := by simp [List.mem_cons, Ne.symm h]
      simp only [this]
theorem wipe_set {σ : St} {i : Nat} {x : Option V} : wipe (σ.set i x) [i] = wipe σ [i] := by
  show (σ.set i x).set i none = σ.set i none
  exact List.set_set _
theorem wipe_len {σ σ' : St} {ks : List Nat} (h : wipe σ' ks = wipe σ ks) : σ'.length = σ.length := by
  have := congrArg List.length h
  rw [wipe_length, wipe_length] at this
  exact this
theorem wipe_get_eq {σ σ' : St} {ks : List Nat} (h : wipe σ' ks = wipe σ ks) {i : Nat} (hi : i ∉ ks) : σ'[i]? = σ[i]? := by
  have := congrArg (fun l : St => l[i]?) h
  simp only [wipe_get, if_neg hi] at this
  exact this
theorem wipe_app {σ σ1 σ2 : St} {k1 k2 : List Nat} (h1 : wipe σ1 k1 = wipe σ k1) (h2 : wipe σ2 k2 = wipe σ1 k2) : wipe σ2 (k1 ++ k2) = wipe σ (k1 ++ k2) := by
  have l1 := wipe_len h1
  have l2 := wipe_len h2
  apply List.ext_getElem?
  intro i
  rw [wipe_get, wipe_get]
  by_cases hi : i ∈ k1 ++ k2
  · rw [if_pos hi, if_pos hi]
    by_cases hl : i < σ.length
    · rw [List.getElem?_eq_getElem hl, List.getElem?_eq_getElem (show i < σ2.length by omega)]; rfl
    · rw [List.getElem?_eq_none (by omega), List.getElem?_eq_none (by omega)]
  · rw [if_neg hi, if_neg hi]
    have a1 : i ∉ k1 := fun z => hi (List.mem_append_left _ z)
    have a2 : i ∉ k2 := fun z => hi (List.mem_append_right _ z)
    rw [wipe_get_eq h2 a2, wipe_get_eq h1 a1]
/-- a target by data -/
def gD (c : Cf) (G G' : List Ow) (ks : List Nat) (t : D → Rho → Res Rho) : TG := fun v σ H Q => ∃ S0 H0 S r d, EnvOk c S0 H0 G S H σ r ∧ Rp c.K c.cm S v d ∧ PostR c S0 H0 S H G' σ ks (t d r) Q
theorem pg_imp {tg : Expr} {t t' : TG} (h : PG X tg t) (k : ∀ v σ H Q, t' v σ H Q → t v σ H Q) : PG X tg t' := ⟨fun pins s σ H v u Q I r q => h.run pins s σ H v u Q I r (k v σ H Q q)⟩
theorem pgs_imp {tg : List Expr} {t t' : TGs} (h : PGs X tg t) (k : ∀ v σ H Q, t' v σ H Q → t v σ H Q) : PGs X tg t' := ⟨fun pins s σ H v u Q I r q => h.run pins s σ H v u Q I r (k v σ H Q q)⟩
def tgN (i : Nat) : D → Rho → Res Rho := fun d r => .ok (r.set i (some d))
theorem dg_name (i : Nat) {x : Str} (hN : X.N.Nodup) (hi : X.N[i]? = some x) (hx : Loc X.env.scope x) (hf : X.fn x = true ∨ X.env.scope.names.lookup x = some .local := by first | exact .inl rfl | exact .inr rfl | assumption) :
    PG X (.Name x pos) (gD c G (G.set i .v) [i] (tgN i)) := pg_imp (pg_name hN hi hx hf) fun v σ H Q ⟨S0, H0, S, r, d, ok, hv, p⟩ => p _ wipe_set (ok.setV i hv)
def gDs (c : Cf) (G G' : List Ow) (ks : List Nat) (t : List D → Rho → Res Rho) : TGs := fun vs σ H Q => ∃ S0 H0 S r ds, EnvOk c S0 H0 G S H σ r ∧ RpA c.K c.cm S vs ds ∧ PostR c S0 H0 S H G' σ ks (t ds r) Q
def tgNil : List D → Rho → Res Rho
  | [], r => .ok r
  | _ :: _, _ => .bad
def tgCons (t : D → Rho → Res Rho) (u : List D → Rho → Res Rho) : List D → Rho → Res Rho
  | [], _ => .bad
  | d :: ds, r => (t d r).bind (u ds)
theorem dg_nil : PGs X [] (gDs c G G [] tgNil) := pgs_imp pgs_nil fun vs σ H Q ⟨S0, H0, S, r, ds, ok, hv, p⟩ => by
  cases hv with
  | nil => exact ⟨rfl, p σ rfl ok⟩
  | cons _ _ => exact p.elim
theorem dg_cons {es : List Expr} {t : D → Rho → Res Rho} {u : List D → Rho → Res Rho} {k1 k2 : List Nat} (h1 : PG X e (gD c G G' k1 t)) (h2 : PGs X es (gDs c G' G'' k2 u)) (hs : (assignEach (e :: es) X.env).map (·.2) = assign e X.env :: (assignEach es X.env).map (·.2) := by rfl) :
    PGs X (e :: es) (gDs c G G'' (k1 ++ k2) (tgCons t u)) := pgs_imp (pgs_cons h1 h2 hs) fun vs σ H Q ⟨S0, H0, S, r, ds, ok, hv, p⟩ => by
  cases hv with
  | nil => exact p.elim
  | @cons v vs d ds hv hr =>
    refine ⟨v, vs, rfl, S0, H0, S, r, d, ok, hv, ?_⟩
    have p : PostR c S0 H0 S H G'' σ (k1 ++ k2) ((t d r).bind (u ds)) Q := p
    cases ht : t d r with
    | ok r1 =>
      rw [ht] at p
      intro σ1 z1 ok1
      refine ⟨S0, H0, S, r1, ds, ok1, hr, ?_⟩
      have p : PostR c S0 H0 S H G'' σ (k1 ++ k2) (u ds r1) Q := p
      cases hu : u ds r1 with
      | ok r2 => rw [hu] at p; exact fun σ2 z2 ok2 => p σ2 (wipe_app z1 z2) ok2
      | err _ _ _ => rw [hu] at p; exact p.elim
      | bad => rw [hu] at p; exact p.elim
    | err _ _ _ => rw [ht] at p; exact p.elim
    | bad => rw [ht] at p; exact p.elim
def tgT (n : Nat) (u : List D → Rho → Res Rho) : D → Rho → Res Rho := fun d r => match d with
  | .tup ds => if ds.length = n then u ds r else .bad
  | .kt ds => if ds.length = n then u ds r else .bad
  | _ => .bad
theorem dg_tup {es : List Expr} {k n : Nat} {ks : List Nat} {u : List D → Rho → Res Rho} (hc : X.calm = true) (h : PGs X es (gDs c G G' ks u)) (hn : (assignEach es X.env).length = n := by rfl) (hst : (assignEach es X.env).findIdx? (·.1) = none := by rfl) (hK : c.K = X.K := by rfl) :
    PG X (.Tuple es k pos) (gD c G G' ks (tgT n u)) := pg_imp (pg_tup hc h hn hst) fun v σ H Q ⟨S0, H0, S, r, d, ok, hv, p⟩ => by
  unfold tgT at p
  cases hv with
  | @kt a xs ds q rr =>
    dsimp only at p
    by_cases hl : ds.length = n
    · rw [if_pos hl] at p
      exact ⟨a, xs, rfl, by rw [← hK]; exact ok.ex.t q, by rw [rr.length]; exact hl, S0, H0, S, r, ds, ok, rr, p⟩
    · rw [if_neg hl] at p; exact p.elim
  | @tup a xs ds q rr =>
    dsimp only at p
    by_cases hl : ds.length = n
    · rw [if_pos hl] at p
      exact ⟨a, xs, rfl, by rw [← hK]; exact .inl (.inl (ok.ex _ _ q)), by rw [rr.length]; exact hl, S0, H0, S, r, ds, ok, rr, p⟩
    · rw [if_neg hl] at p; exact p.elim
  | _ => exact p.elim
def asgF (t : D → Rho → Res Rho) (f : Rho → Res D) : Rho → SR := fun r => liftS r (f r) fun d => match t d r with
  | .ok r' => .nx r'
  | _ => .bad
/-- target = e -/
theorem ds_asg {tg : Expr} {ks : List Nat} {t : D → Rho → Res Rho} (hg : Gok c G) (he : PE X e (tV c G f)) (ht : PG X tg (gD c G G' ks t)) (hs : swapsWithSole [tg] e pos.line X.env = pure false := by rfl) (hw : swappedStores [tg] e X.env = pure none := by rfl)
    (h1 : (assignEach [tg] X.env).map (·.2) = [assign tg X.env] := by rfl) : PS X (.Assign [tg] e pos) (sD c L G G' (asgF t f)) := ps_imp (ps_asg he ht hs hw h1) fun E σ H ⟨S0, H0, S, r, ok, p⟩ => st_seq hg ok p fun d v S1 H1 w1 o1 m1 p1 => by
  refine ⟨S0, H0, S1, r, d, o1, m1, ?_⟩
  cases ht : t d r with
  | ok r' => rw [ht] at p1; exact fun σ' _ ok' => p1 σ' S1 H1 ok'
  | err _ _ _ => rw [ht] at p1; exact p1.elim
  | bad => rw [ht] at p1; exact p1.elim
/-- x, y = a, b -/
def parF (i j : Nat) (f1 f2 : Rho → Res D) : Rho → SR := fun r => liftS r (dCons f1 (dCons f2 dNil) r) fun ds => match ds with
  | [d, e] => .nx ((r.set i (some d)).set j (some e))
  | _ => .bad
theorem ds_par (i j : Nat) {x y : Str} {px py pt pt2 : Pos} {kt k2 : Nat} (hg : Gok c G) (hc : X.calm = true) (hN : X.N.Nodup) (hi : X.N[i]? = some x) (hj : X.N[j]? = some y) (hij : i ≠ j)
    (hx : X.env.scope.names.lookup x = some .local) (hy : X.env.scope.names.lookup y = some .local) (ha : PE X a (tV c G f1)) (hb : PE X b (tV c G f2))
    (hw : swappedStores [.Tuple [.Name x px, .Name y py] kt pt] (.Tuple [a, b] k2 pt2) X.env = pure (some [x, y]))
    (hs : swapsWithSole [.Tuple [.Name x px, .Name y py] kt pt] (.Tuple [a, b] k2 pt2) pos.line X.env = pure false := by rfl)
    (hs1 : starEach [a, b] X.env = (false, eval a X.env) :: starEach [b] X.env := by rfl) (hs2 : starEach [b] X.env = (false, eval b X.env) :: starEach [] X.env := by rfl) :
    PS X (.Assign [.Tuple [.Name x px, .Name y py] kt pt] (.Tuple [a, b] k2 pt2) pos) (sD c L G ((G.set i .v).set j .v) (parF i j f1 f2)) :=
  ps_imp (ps_par hc hN hi hj hij hx hy (da_cons ha (da_cons hb da_nil hs2) hs1) hw hs) fun E σ H ⟨S0, H0, S, r, ok, p⟩ => st_seq hg ok p fun ds vs S1 H1 w1 o1 m1 p1 => by
    match ds, m1, p1 with
    | [d, e], .cons hd (.cons he .nil), p1 => exact ⟨_, _, rfl, p1 _ S1 H1 ((o1.setV i hd).setV j he)⟩
    | [], _, p1 => exact p1.elim
    | [_], _, p1 => exact p1.elim
    | _ :: _ :: _ :: _, _, p1 => exact p1.elim
def YOk (c : Cf) (S' : Hp) (ds : List D) (Y : Nat → Hp → V → Hp → Prop) : Prop := ∀ i S1 H1 x H2, i < ds.length → Ex S' S1 → Ex S1 H1 → Y i H1 x H2 → ∃ S2 d, Fwd S1 H1 S2 H2 ∧ ds[i]? = some d ∧ Rp c.K c.cm S2 x d
/-- the iterator J gives the data ds -/
def Gives (c : Cf) (H0 S' : Hp) (J : It) (ds : List D) : Prop := ∃ Gd Y, Walk J ds.length Gd Y ∧ (∀ S'' H'', Ex S' S'' → Ex S'' H'' → Ex H0 H'' → Gd H'') ∧ YOk c S' ds Y
def iD (c : Cf) (G : List Ow) (f : Rho → Res (List D)) : TI := fun σ H R => ∃ S0 H0 S r, EnvOk c S0 H0 G S H σ r ∧ PostG c σ S H (f r) fun ds S' H' => ∀ J, Gives c H0 S' J ds → R J H'
theorem pi_imp {tg it : Expr} {t t' : TI} (h : PI X tg it t) (k : ∀ σ H R, t' σ H R → t σ H R) : PI X tg it t' := ⟨fun pins s σ H R I q => h.run pins s σ H R I (k σ H R q)⟩
def dIt (g : D → Res (List D)) (f : Rho → Res D) : Rho → Res (List D) := fun r => (f r).bind g
theorem gives_list {c : Cf} {H0 S : Hp} {q : Addr} {xs : List V} {ds : List D} (h : SqL c.K S q xs) (rr : RpA c.K c.cm S xs ds) : Gives c H0 S (Itl c.K q) ds := by
  refine ⟨_, _, by rw [← rr.length]; exact walk_list (K := c.K) (a := q) (xs := xs), fun S'' H'' e1 e2 _ => e2.l (e1.l h), fun i S1 H1 x H2 hi e1 e2 y => ?_⟩
  obtain ⟨rfl, hx⟩ := y
  obtain ⟨d, h1, h2⟩ := rr.getV hx
  exact ⟨S1, d, Fwd.refl e2, h1, h2.mono e1⟩
theorem gives_tup {c : Cf} {H0 S : Hp} {q : Addr} {xs : List V} {ds : List D} (h : SqT c.K S q xs) (rr : RpA c.K c.cm S xs ds) : Gives c H0 S (Itt c.K q) ds := by
  refine ⟨_, _, by rw [← rr.length]; exact walk_tup (K := c.K) (a := q) (xs := xs), fun S'' H'' e1 e2 _ => e2.t (e1.t h), fun i S1 H1 x H2 hi e1 e2 y => ?_⟩
  obtain ⟨rfl, hx⟩ := y
  obtain ⟨d, h1, h2⟩ := rr.getV hx
  exact ⟨S1, d, Fwd.refl e2, h1, h2.mono e1⟩
variable {tg : Expr}
theorem di_list (he : PE X e (tV c G f)) (hK : c.K = X.K := by rfl) : PI X tg e (iD c G (dIt itemsL f)) := pi_imp (pi_list he) fun σ H R ⟨S0, H0, S, r, ok, p⟩ => rd_seq ok p fun d v S1 H1 w1 o1 m1 p1 => by
  rw [← hK]
  cases d with
  | lst ds =>
    cases m1 with | @lst q xs _ h rr =>
    exact ⟨q, rfl, ⟨xs, .inl (.inl (o1.ex _ _ h))⟩, p1.go o1.ex _ (gives_list (.inl (.inl h)) rr)⟩
  | fz ds =>
    cases m1 with | @fz q xs _ h rr =>
    exact ⟨q, rfl, ⟨xs, o1.ex.l h⟩, p1.go o1.ex _ (gives_list h rr)⟩
  | _ => exact p1.elim
theorem di_tup (he : PE X e (tV c G f)) (hK : c.K = X.K := by rfl) : PI X tg e (iD c G (dIt itemsT f)) := pi_imp (pi_tup he) fun σ H R ⟨S0, H0, S, r, ok, p⟩ => rd_seq ok p fun d v S1 H1 w1 o1 m1 p1 => by
  rw [← hK]
  cases d with
  | tup ds =>
    cases m1 with | @tup q xs _ h rr =>
    exact ⟨q, rfl, ⟨xs, .inl (.inl (o1.ex _ _ h))⟩, p1.go o1.ex _ (gives_tup (.inl (.inl h)) rr)⟩
  | _ => exact p1.elim
/-- range(n), range(a, b) -/
def rngL (lo : Int) (n : Nat) : List D := (List.range n).map fun (i : Nat) => D.int (lo + (i : Int))
theorem gives_rng {c : Cf} {H0 S : Hp} {lo : Int} {n : Nat} : Gives c H0 S (Itr lo n) (rngL lo n) := by
  have hl : (rngL lo n).length = n := by unfold rngL; simp
  refine ⟨_, _, by rw [hl]; exact walk_range, fun _ _ _ _ _ => trivial, fun i S1 H1 x H2 hi e1 e2 y => ?_⟩
  obtain ⟨rfl, rfl⟩ := y
  rw [hl] at hi
  exact ⟨S1, .int (lo + (i : Int)), Fwd.refl e2, by unfold rngL; simp [hi], .int _⟩
noncomputable def rng1 : List D → Res (List D)
  | [.int n] => guard (-4611686018427387904 ≤ n ∧ n < 4611686018427387904) (.ok (rngL 0 n.toNat))
  | _ => .bad
def dIts (g : List D → Res (List D)) (fs : Rho → Res (List D)) : Rho → Res (List D) := fun r => (fs r).bind g
theorem di_rng1 {p : Pos} {fs : Rho → Res (List D)} (hm : X.mg "range" = none) (hg : Gl X "range") (ha : PA X [a] (tAs c G fs)) (hs : starEach [a] X.env = [(false, eval a X.env)] := by rfl) : PI X tg (.Call (.Name "range" p) [a] [] pos) (iD c G (dIts rng1 fs)) :=
  pi_imp (pi_range1 hg hm ha hs) fun σ H R ⟨S0, H0, S, r, ok, p⟩ => rd_seq ok p fun ds vs S1 H1 w1 o1 m1 p1 => by
    unfold rng1 at p1
    split at p1
    · obtain ⟨hl, p1⟩ := p1.gd
      match vs, m1 with
      | _, .cons h .nil => cases h; exact ⟨_, rfl, by have := hl.1; omega, by have := hl.2; omega, p1.go o1.ex _ gives_rng⟩
    · exact p1.elim
/-- the signs of a text -/
def signs (z : Str) : List D := z.cps.toList.map fun n => .str ⟨#[n]⟩
def itemsS : D → Res (List D)
  | .str z => .ok (signs z)
  | _ => .bad
def loopF (t : D → Rho → Res Rho) (F : Rho → SR) : List D → Rho → SR
  | [], r => .nx r
  | d :: ds, r => match t d r with
    | .ok r1 => match F r1 with
      | .nx r2 => loopF t F ds r2
      | .ct r2 => loopF t F ds r2
      | .bk r2 => .nx r2
      | o => o
    | _ => .bad
def forF (its : Rho → Res (List D)) (t : D → Rho → Res Rho) (F : Rho → SR) : Rho → SR := fun r => liftS r (its r) fun ds => loopF t F ds r
theorem ds_for {iter : Expr} {body : List Stmt} {its : Rho → Res (List D)} {ks : List Nat} {t : D → Rho → Res Rho} {F : Rho → SR} (hg : Gok c G) (hp : PassesOwn (model X.prog X.w) X.A X.env X.xe) (hc : X.calm = true) (hi : PI X tg iter (iD c G its)) (ht : PG X tg (gD c G G' ks t)) (hb : PSs X body (sD c G G' G F))
    (hs : ∀ x, foldedSetIterable iter X.env x = pure x := by intro _; rfl) : PS X (.For tg iter body [] pos) (sD c L G G (forF its t F)) :=
  ps_imp (ps_for hp hc hi ht hb hs) fun E σ H ⟨S0, H0, S, r, ok, p⟩ => by
    refine ⟨S0, H0, S, r, ok, ?_⟩
    unfold forF at p
    cases hf : its r with
    | err n ns vs =>
      rw [hf] at p
      exact fun C dd S' H' fs h1 fw h2 h3 h4 => p C dd σ S' H' fs h1 (ok.fwd.trans fw) (fun g q => by rw [hg g q]; exact ok.go fw) h2 h3 h4
    | bad => rw [hf] at p; exact p.elim
    | ok ds =>
      rw [hf] at p
      intro S1 H1 w1 J ⟨Gd, Y, wk, hG, hY⟩
      have p : PostS c S0 H0 L G (loopF t F ds r) E := p
      refine for_it wk (fun i σ' H' => ∃ S' r', Ex S1 S' ∧ EnvOk c S0 H0 G S' H' σ' r' ∧ PostS c S0 H0 L G (loopF t F (ds.drop i) r') E) ⟨S1, r, Ex.refl, ok.go w1, by rw [List.drop_zero]; exact p⟩ ?_ ?_ ?_
      · rintro i σ' H' _ ⟨S', r', e1, ok', _⟩
        exact hG S' H' e1 ok'.ex ok'.fwd.h
      · rintro i x σ' H' H2 hi ⟨S', r', e1, ok', p'⟩ y
        obtain ⟨S2, d, fw, hd, hx⟩ := hY i S' H' x H2 hi e1 ok'.ex y
        have hdrop : ds.drop i = d :: ds.drop (i + 1) := by
          rw [List.drop_eq_getElem_cons hi]
          rw [List.getElem?_eq_getElem hi] at hd
          cases hd; rfl
        rw [hdrop] at p'
        unfold loopF at p'
        refine ⟨S0, H0, S2, r', d, ok'.go fw, hx, ?_⟩
        cases htt : t d r' with
        | err _ _ _ => rw [htt] at p'; exact p'.elim
        | bad => rw [htt] at p'; exact p'.elim
        | ok r1 =>
          rw [htt] at p'
          intro σ3 _ ok3
          refine ⟨S2, H0, S2, r1, ok3.rebase, ?_⟩
          dsimp only at p'
          have fin : ∀ σ4 S4 H4 r4, EnvOk c S2 H0 G S4 H4 σ4 r4 → PostS c S0 H0 L G (loopF t F (ds.drop (i + 1)) r4) E → ∃ S' r', Ex S1 S' ∧ EnvOk c S0 H0 G S' H4 σ4 r' ∧ PostS c S0 H0 L G (loopF t F (ds.drop (i + 1)) r') E := fun σ4 S4 H4 r4 e4 p4 =>
            ⟨S4, r4, (e1.trans fw.s).trans e4.fwd.s, e4.unbase ok3.fwd, p4⟩
          cases hF : F r1 with
          | nx r2 => rw [hF] at p'; exact fun σ4 S4 H4 e4 => fin σ4 S4 H4 r2 e4 p'
          | ct r2 => rw [hF] at p'; exact fun σ4 S4 H4 e4 => fin σ4 S4 H4 r2 e4 p'
          | bk r2 => rw [hF] at p'; exact fun σ4 S4 H4 e4 => p' σ4 S4 H4 (e4.unbase ok3.fwd)
          | rt d => rw [hF] at p'; exact PostS.rebase (c := c) (o := .rt d) (E := E) ok3.fwd p'
          | er r2 n ns vs => rw [hF] at p'; exact PostS.rebase (c := c) (o := .er r2 n ns vs) (E := E) ok3.fwd p'
          | bad => rw [hF] at p'; exact p'.elim
      · rintro σ' H' ⟨S', r', e1, ok', p'⟩
        rw [List.drop_length] at p'
        exact p' σ' S' H' ok'
end
end Dx
end S_DxE
section S_DxF
set_option Elab.async false
set_option linter.all false
set_option maxRecDepth 100000
set_option maxHeartbeats 2000000
namespace L2N
open PySem PySem.Spec PyProof.Rows L2
theorem passLN {X : Cx} : Passes (L2N.CX X.prog X.w) X E0 := by
  rintro _ _ _ _ _ _ _ ⟨_, _, _, _, _, _, _, _, _, _, _, _, z⟩
  exact z.elim
theorem _root_.L2.Fun.okN {P : Program} {w : World} {K : PySem.W.Frag} {mg : Str → Option Value} {base : Heap} {k : Nat} {f : Addr} {x qual : Str} {st : Stmt} {fd : FuncData} {N ps : List Str} {sp : Sp} (F : Fun K x qual st f fd) (S : FnScope N ps (defScope st))
    (len : ∀ vs H Q E, sp vs H Q E → vs.length = ps.length)
    (hb : ∀ (cdv : Value) (A : Around) (outer : List Env) (s : Shared) (H : Hp) (vs : List V) (Q : VK) (E : XK), Room k (A.deeper (envOfC qual (defScope st) s.heap.objs.size f cdv)) → sp vs H Q E →
      ∃ t, PSs (cxOf (L2N.CX P w) P w K mg base N qual (defScope st) f cdv A outer s H E) (defBody st) t ∧ t { nx := fun _ H' => Q .non H', rt := Q } (start N vs) H) :
    FnOk P w K mg base (L2N.CX P w) (k + 1) f fd ps sp := match F.ex with
  | ⟨_, _, _, _, _, _, cdv, _, _, h, lk, hcd⟩ => by
    subst h
    exact fn_of lk hcd S len fun A outer s H vs Q E hr hsp => hb cdv A outer s H vs Q E hr hsp
end L2N
namespace Dx
open PySem L2
def wipeR (r : Rho) : List Nat → Rho
  | [] => r
  | v :: vs => (wipeR r vs).set v none
theorem wipeR_len (r : Rho) : ∀ vs : List Nat, (wipeR r vs).length = r.length
  | [] => rfl
  | v :: vs => by show ((wipeR r vs).set v none).length = _; rw [List.length_set, wipeR_len r vs]
theorem wipeR_some {r : Rho} {i : Nat} {d : D} : ∀ {vs : List Nat}, (wipeR r vs)[i]? = some (some d) → r[i]? = some (some d) ∧ i ∉ vs
  | [], h => ⟨h, by simp⟩
  | v :: vs, h => by
    rcases set_some (l := wipeR r vs) h with ⟨_, e, _⟩ | ⟨ne, h⟩
    · cases e
    · obtain ⟨h1, h2⟩ := wipeR_some h
      exact ⟨h1, by simp [Ne.symm ne, h2]⟩
/-- within a comprehension nothing is raised -/
abbrev Cf.calm (c : Cf) : Cf := ⟨c.K, c.cm, fun _ _ _ _ => False, none, c.rm, c.tb⟩
section
variable {X : Cx} {c : Cf} {L G G' : List Ow} {σ : St} {S0 H0 S H : Hp} {r : Rho}
theorem EnvOk.wiped (e : EnvOk c S0 H0 G S H σ r) (vs : List Nat) : EnvOk c.calm S0 H0 G S H (wipe σ vs) (wipeR r vs) := by
  refine ⟨e.fwd, by rw [wipe_length, wipeR_len, e.len], fun i d h => ?_, fun i j d d' p hi hj ki kj si sj => ?_, let ⟨A, hA⟩ := e.sto; ⟨A, hA.sub (fun a ha => (hA.out a ha).1) (fun _ _ => rfl) Ex.refl (fun i d p hi ki si => hA.own i d p (wipeR_some hi).1 ki (wipe_some si).1) fun i d ki hi => ⟨rfl, (wipeR_some hi).1, by rw [wipe_get, if_neg (wipeR_some hi).2]⟩⟩⟩
  · obtain ⟨h1, h2⟩ := wipeR_some h
    obtain ⟨v, h3, h4⟩ := e.slot i d h1
    exact ⟨v, by rw [wipe_get, if_neg h2]; exact h3, h4⟩
  · exact e.sep i j d d' p (wipeR_some hi).1 (wipeR_some hj).1 ki kj (wipe_some si).1 (wipe_some sj).1
theorem Fwd.put {S' H' : Hp} {p : Addr} {o : HO} (f : Fwd S H S' H') (n : H p = none) (ns : S' p = none) (tk : Tk H' (upd H' p o)) : Fwd S H S' (upd H' p o) := ⟨f.s, f.h.put n, f.sub.put ns, f.new, f.tb.trans tk⟩
def lcLoop (t : D → Rho → Res Rho) (tt : Rho → Res Bool) (fe : Rho → Res D) (rw : Rho) : List D → Res (List D)
  | [] => .ok []
  | d :: ds => match t d rw with
    | .ok r1 => match tt r1 with
      | .ok true => match fe r1 with
        | .ok x => match lcLoop t tt fe rw ds with
          | .ok xs => .ok (x :: xs)
          | _ => .bad
        | _ => .bad
      | .ok false => lcLoop t tt fe rw ds
      | _ => .bad
    | _ => .bad
noncomputable def dLc (its : Rho → Res (List D)) (t : D → Rho → Res Rho) (tt : Rho → Res Bool) (fe : Rho → Res D) (vs : List Nat) : Rho → Res D := fun r => (its r).bind fun ds => guard (ds.length ≤ sizeLine) (match lcLoop t tt fe (wipeR r vs) ds with
  | .ok xs => .ok (.lst xs)
  | _ => .bad)
def dYes : Rho → Res Bool := fun _ => .ok true
/-- what is walked, as long as nothing that is there changes -/
def iDl (c : Cf) (G : List Ow) (f : Rho → Res (List D)) : TI := fun σ H R => ∃ S0 H0 S r, EnvOk c S0 H0 G S H σ r ∧ PostG c σ S H (f r) fun ds S' H' => ∀ J, Gives c H' S' J ds → R J H'
theorem pi_l {tg it : Expr} {f : Rho → Res (List D)} (h : PI X tg it (iD c G f)) : PI X tg it (iDl c G f) := pi_imp h fun σ H R ⟨S0, H0, S, r, ok, p⟩ => ⟨S0, H0, S, r, ok, p.imp fun ds S' H' fw hk J gv => hk J (let ⟨Gd, Y, h1, h2, h3⟩ := gv; ⟨Gd, Y, h1, fun S'' H'' e1 e2 e3 => h2 S'' H'' e1 e2 ((ok.fwd.h.trans fw.h).trans e3), h3⟩)⟩
theorem lc_rd {its : Rho → Res (List D)} {t : D → Rho → Res Rho} {tt : Rho → Res Bool} {fe : Rho → Res D} {vs : List Nat} : ∀ σ H Q, tO c G (dLc its t tt fe vs) σ H Q →
    tLc (iDl c G its) (gD c.calm G G' vs t) (tT c.calm G' tt) (tV c.calm G' fe) vs σ H Q := fun σ H Q ⟨S0, H0, S, r, ok, p⟩ => by
  refine ⟨S0, H0, S, r, ok, p.unbind.imp fun ds S1 H1 w1 p1 J gv Dl hD => ?_⟩
  obtain ⟨hl, p1⟩ := p1.gd
  obtain ⟨Gd, Y, wk, hG, hY⟩ := gv
  have ok1 := ok.go w1
  split at p1
  · rename_i res hres
    have okw := ok1.wiped vs
    have nS : S1 Dl = none := ok1.ex.nn hD
    refine lc_it wk (fun i H' => ∃ S' acc accD rest, Fwd S1 H1 S' H' ∧ S' Dl = none ∧ H' Dl = some (.lst acc) ∧ RpA c.K c.cm S' acc accD ∧ lcLoop t tt fe (wipeR r vs) (ds.drop i) = .ok rest ∧ accD ++ rest = res ∧ accD.length ≤ i)
      ⟨S1, [], [], res, Fwd.heap ok1.ex hD, nS, upd_same, .nil, by rw [List.drop_zero]; exact hres, rfl, Nat.le_refl _⟩ ?_ ?_ ?_
    · rintro i H' _ ⟨S', acc, accD, rest, fw, _⟩
      exact hG S' H' fw.s fw.sub fw.h
    · rintro i x H' H2 hi ⟨S', acc, accD, rest, fw, n1, h1, r1, hr, ha, hn⟩ y
      obtain ⟨S2, d, fw2, hd, hx⟩ := hY i S' H' x H2 hi fw.s fw.sub y
      have hdrop : ds.drop i = d :: ds.drop (i + 1) := by
        rw [List.drop_eq_getElem_cons hi]
        rw [List.getElem?_eq_getElem hi] at hd
        cases hd; rfl
      rw [hdrop] at hr
      unfold lcLoop at hr
      refine ⟨S0, H0, S2, wipeR r vs, d, okw.go (fw.trans fw2), hx, ?_⟩
      cases ht : t d (wipeR r vs) with
      | err _ _ _ => rw [ht] at hr; cases hr
      | bad => rw [ht] at hr; cases hr
      | ok r2 =>
        rw [ht] at hr
        dsimp only at hr
        intro σ3 z3 ok3
        have hz : L2.wipe (L2.wipe σ vs) vs = L2.wipe σ vs := by
          apply List.ext_getElem?
          intro k
          rw [wipe_get, wipe_get]
          split
          · cases σ[k]? <;> rfl
          · rfl
        have keepN : ∀ S4 H4, Fwd S' H' S4 H4 → S4 Dl = none := fun S4 H4 f4 => by
          cases q : S4 Dl with
          | none => rfl
          | some u => obtain ⟨_, z⟩ := (f4.new Dl u q n1).not h1; cases z
        refine ⟨z3.trans hz, S0, H0, S2, r2, ok3, ?_⟩
        cases htt : tt r2 with
        | err _ _ _ => rw [htt] at hr; cases hr
        | bad => rw [htt] at hr; cases hr
        | ok b =>
          rw [htt] at hr
          intro S4 H4 w4 b' hb
          cases hb
          have f4 := fw2.trans w4
          cases b with
          | false =>
            dsimp only at hr
            rw [if_neg (by decide)]
            exact ⟨S4, acc, accD, rest, fw.trans f4, keepN S4 H4 f4, f4.h _ _ h1, r1.mono f4.s, hr, ha, Nat.le_succ_of_le hn⟩
          | true =>
            dsimp only at hr
            rw [if_pos rfl]
            refine ⟨S0, H0, S4, r2, ok3.go w4, ?_⟩
            cases hfe : fe r2 with
            | err _ _ _ => rw [hfe] at hr; cases hr
            | bad => rw [hfe] at hr; cases hr
            | ok x2 =>
              rw [hfe] at hr
              dsimp only at hr
              cases hlc : lcLoop t tt fe (wipeR r vs) (ds.drop (i + 1)) with
              | err _ _ _ => rw [hlc] at hr; cases hr
              | bad => rw [hlc] at hr; cases hr
              | ok xs2 =>
                rw [hlc] at hr
                cases hr
                intro S5 H5 w5 y5 hy5
                have f5 := f4.trans w5
                refine ⟨acc, f5.h _ _ h1, ?_, S5, acc ++ [y5], accD ++ [x2], xs2, (fw.trans f5).put hD (keepN S5 H5 f5) (Tk.at (f5.h _ _ h1) .lst), keepN S5 H5 f5, upd_same, (r1.mono f5.s).app (.one hy5), rfl, ?_, ?_⟩
                · rw [r1.length]; omega
                · rw [← ha, List.append_assoc]; rfl
                · simp; omega
    · rintro H' ⟨S', acc, accD, rest, fw, n1, h1, r1, hr, ha, hn⟩
      rw [List.drop_length] at hr
      cases hr
      rw [List.append_nil] at ha
      subst ha
      exact p1 S' H' fw _ ⟨Dl, .lst acc, rfl, w1.h.nn hD, n1, h1, .lst r1⟩
  · exact p1.elim
theorem de_lc {elt tg iter : Expr} {ifs : List Expr} {scope : Scope} {own : List (Str × Nat)} {pos : Pos} {its : Rho → Res (List D)} {t : D → Rho → Res Rho} {tt : Rho → Res Bool} {fe : Rho → Res D} (hc : X.calm = true) (hN : X.N.Nodup) (hi : PI X tg iter (iD c G its)) (ok : BlkOk X.N X.env.scope scope own)
    (hg : ∀ (s : Shared) (H : Hp) (C : Addr) (cl : List (Str × Addr)) (fp : List Addr), PG (X.blk s H scope (compEnvC scope cl C X.env) fp) tg (gD c.calm G G' (own.map (·.2)) t)) (ht : ∀ (s : Shared) (H : Hp) (C : Addr) (cl : List (Str × Addr)) (fp : List Addr), PTs (X.blk s H scope (compEnvC scope cl C X.env) fp) ifs (tT c.calm G' tt))
    (he : ∀ (s : Shared) (H : Hp) (C : Addr) (cl : List (Str × Addr)) (fp : List Addr), PE (X.blk s H scope (compEnvC scope cl C X.env) fp) elt (tV c.calm G' fe)) (hs : ∀ x, foldedSetIterable iter X.env x = pure x := by intro _; rfl) :
    PE X (.ListComp elt [⟨tg, iter, ifs, 0⟩] scope pos) (tO c G (dLc its t tt fe (own.map (·.2)))) := pe_imp (pe_lc hc hN (pi_l hi) ok hg ht he hs) lc_rd
/-- name = [..] on one line, the name a local -/
theorem ds_setLc (i : Nat) {y : Str} {py : Pos} {elt tg iter : Expr} {ifs : List Expr} {scope : Scope} {own : List (Str × Nat)} {pos spos : Pos} {its : Rho → Res (List D)} {t : D → Rho → Res Rho} {tt : Rho → Res Bool} {fe : Rho → Res D} (hgk : Gok c G) (hG : i < G.length) (hc : X.calm = true) (hN : X.N.Nodup) (hy : X.N[i]? = some y) (hyl : X.env.scope.names.lookup y = some .local)
    (hsw : swapsWith (.ListComp elt [⟨tg, iter, ifs, 0⟩] scope pos) (some (.Name y py)) spos.line X.env = pure true) (hi : PI X tg iter (iD c G its)) (ok : BlkOk X.N X.env.scope scope own)
    (hg : ∀ (s : Shared) (H : Hp) (C : Addr) (cl : List (Str × Addr)) (fp : List Addr), PG (X.blk s H scope (compEnvC scope cl C X.env) fp) tg (gD c.calm G G' (own.map (·.2)) t)) (ht : ∀ (s : Shared) (H : Hp) (C : Addr) (cl : List (Str × Addr)) (fp : List Addr), PTs (X.blk s H scope (compEnvC scope cl C X.env) fp) ifs (tT c.calm G' tt))
    (he : ∀ (s : Shared) (H : Hp) (C : Addr) (cl : List (Str × Addr)) (fp : List Addr), PE (X.blk s H scope (compEnvC scope cl C X.env) fp) elt (tV c.calm G' fe)) (hs : ∀ x, foldedSetIterable iter X.env x = pure x := by intro _; rfl) :
    PS X (.Assign [.Name y py] (.ListComp elt [⟨tg, iter, ifs, 0⟩] scope pos) spos) (sD c L G (G.set i .o) (setF i (dLc its t tt fe (own.map (·.2))))) :=
  ps_imp (ps_setLc hc hN hy hyl hsw (pi_l hi) ok hg ht he hs) fun E σ H ⟨S0, H0, S, r, ok, p⟩ => lc_rd σ H _ (st_seq hgk ok p fun d v S1 H1 w1 o1 m1 p1 => by
    obtain ⟨q, ho, rfl, n, ns, hp, h⟩ := m1
    exact p1 _ S1 H1 (ok.setO w1 i hG n ns hp h))
theorem dt_nil : PTs X [] (tT c G dYes) := ⟨fun pins s σ H Q I ⟨S0, H0, S, r, ok, p⟩ => pts_nil.run pins s σ H Q I (p.go ok.ex _ rfl)⟩
end
/-- the mode of its result: own, or a value -/
def mR (c : Cf) (rm : Bool) : Md V D := if rm then mO c else mV c
instance {c : Cf} {rm : Bool} : Anti (mR c rm) := by
  cases rm with
  | true => exact (inferInstance : Anti (mO c))
  | false => exact (inferInstance : Anti (mV c))
/-- F by data; ms the arguments' modes; rm whether the result is a new object that nothing else holds -/
def spD (K : PySem.W.Frag) (cm : CM) (ms : List Bool) (rm : Bool) (F : List D → Res D) : Sp := fun vs H Q E => ∃ S ds, Ex S H ∧ RpM ⟨K, cm, fun _ _ _ _ => False, none, rm, fun _ _ => False⟩ S H ms vs ds ∧
  PostG ⟨K, cm, fun cls d _ H => E cls d H, none, rm, fun _ _ => False⟩ [] S H (F ds) fun a S' H' => ∀ b, mR ⟨K, cm, fun _ _ _ _ => False, none, rm, fun _ _ => False⟩ rm H S' H' b a → Q b H'
section
variable {X : Cx} {c : Cf} {L G G' : List Ow} {k : Nat} {f : Addr} {fd : FuncData} {ps : List Str} {x : Str} {p pos : Pos} {e : Expr} {es : List Expr} {fs : Rho → Res (List D)} {ms : List Bool} {rm : Bool} {F : List D → Res D}
theorem RpM.cf {c c' : Cf} {S H : Hp} (hK : c.K = c'.K) (hm : c.cm = c'.cm) : ∀ {ms : List Bool} {vs : List V} {ds : List D}, RpM c S H ms vs ds → RpM c' S H ms vs ds
  | [], [], [], _ => trivial
  | true :: ms, v :: vs, d :: ds, h => ⟨by rw [← hK, ← hm]; exact h.1, RpM.cf hK hm h.2⟩
  | false :: ms, v :: vs, d :: ds, h => ⟨by rw [← hK, ← hm]; exact h.1, RpM.cf hK hm h.2⟩
  | [], _ :: _, _, h => h.elim
  | [], [], _ :: _, h => h.elim
  | true :: _, [], _, h => h.elim
  | true :: _, _ :: _, [], h => h.elim
  | false :: _, [], _, h => h.elim
  | false :: _, _ :: _, [], h => h.elim
theorem call_rd {E : XK} {σ : St} {S H : Hp} {vs : List V} {ds : List D} {Q : VK} (hE : ∀ cls d H, c.W cls d σ H → E cls d H) (ex : Ex S H) (m : RpM c S H ms vs ds)
    (q : PostG c σ S H (F ds) fun a S' H' => ∀ b, mR c rm H S' H' b a → Q b H') : spD c.K c.cm ms rm F vs H Q E := by
  refine ⟨S, ds, ex, RpM.cf (c := c) (c' := ⟨c.K, c.cm, fun _ _ _ _ => False, none, rm, fun _ _ => False⟩) rfl rfl m, ?_⟩
  cases hF : F ds with
  | ok a =>
    rw [hF] at q
    intro S' H' w b hb
    refine q S' H' w b ?_
    cases rm with
    | true => exact hb
    | false => exact hb
  | err n ns vs => rw [hF] at q; exact fun C dd S' H' fs h1 w h2 h3 h4 => hE _ _ _ (q C dd S' H' fs h1 w h2 h3 h4)
  | bad => rw [hF] at q; exact q.elim
/-- f(e, ..), f a def of the text -/
theorem de_call (F1 : FnOk X.prog X.w X.K X.mg X.base (L2N.CX X.prog X.w) k f fd ps (spD c.K c.cm ms rm F)) (tk : L2N.Takes X c.W) (hr : Room k X.A) (hg : Gl X x) (hm : X.mg x = some (.ref f)) (hk : PySem.W.keepIn X.K (.ref f) = true) (hb : Binds X.K fd ps [])
    (ha : PA X (e :: es) (tM c G ms fs)) (hdb : (x == ("__debug__" : Str)) = false := by decide) (he : starEach (e :: es) X.env = (false, eval e X.env) :: starEach es X.env := by rfl) (hpl : (backTo pos (starEach es X.env)).any (·.1) = false := by rfl) :
    PE X (.Call (.Name x p) (e :: es) [] pos) (rd c G (dCall F fs) (mR c rm)) :=
  pe_imp (pe_callSD (E := fun σ cls d H => c.W cls d σ H) F1 hr hg hm hk hb .nil (fun σ => L2N.passAt tk σ) ha hdb he hpl) fun σ H Q ⟨S0, H0, S, r, ok, q⟩ => rd_seq ok q fun ds vs S1 H1 w1 o1 m1 p1 => by
    rw [List.append_nil]
    exact call_rd (fun _ _ _ h => h) o1.ex m1 (p1.anti w1.h)
theorem de_callV (F1 : FnOk X.prog X.w X.K X.mg X.base (L2N.CX X.prog X.w) k f fd ps (spD c.K c.cm ms false F)) (tk : L2N.Takes X c.W) (hr : Room k X.A) (hg : Gl X x) (hm : X.mg x = some (.ref f)) (hk : PySem.W.keepIn X.K (.ref f) = true) (hb : Binds X.K fd ps [])
    (ha : PA X (e :: es) (tM c G ms fs)) (hdb : (x == ("__debug__" : Str)) = false := by decide) (he : starEach (e :: es) X.env = (false, eval e X.env) :: starEach es X.env := by rfl) (hpl : (backTo pos (starEach es X.env)).any (·.1) = false := by rfl) :
    PE X (.Call (.Name x p) (e :: es) [] pos) (tV c G (dCall F fs)) := de_call F1 tk hr hg hm hk hb ha hdb he hpl
theorem de_callO (F1 : FnOk X.prog X.w X.K X.mg X.base (L2N.CX X.prog X.w) k f fd ps (spD c.K c.cm ms true F)) (tk : L2N.Takes X c.W) (hr : Room k X.A) (hg : Gl X x) (hm : X.mg x = some (.ref f)) (hk : PySem.W.keepIn X.K (.ref f) = true) (hb : Binds X.K fd ps [])
    (ha : PA X (e :: es) (tM c G ms fs)) (hdb : (x == ("__debug__" : Str)) = false := by decide) (he : starEach (e :: es) X.env = (false, eval e X.env) :: starEach es X.env := by rfl) (hpl : (backTo pos (starEach es X.env)).any (·.1) = false := by rfl) :
    PE X (.Call (.Name x p) (e :: es) [] pos) (tO c G (dCall F fs)) := de_call F1 tk hr hg hm hk hb ha hdb he hpl
def startR (n : Nat) (ds : List D) : Rho := ds.map some ++ List.replicate (n - ds.length) none
def G0 (ms : List Bool) (n : Nat) : List Ow := ms.map (fun m => if m then .b else .v) ++ List.replicate (n - ms.length) .v
def runF (n : Nat) (rm : Bool) (Fb : Rho → SR) (ds : List D) : Res D := match Fb (startR n ds) with
  | .rt d => .ok d
  | .nx _ => if rm then .bad else .ok .non
  | .er _ n ns vs => .err n ns vs
  | _ => .bad
theorem RpM.get {S H : Hp} : ∀ {ms : List Bool} {vs : List V} {ds : List D} {i : Nat} {d : D}, RpM c S H ms vs ds → ds[i]? = some d → ∃ v m, vs[i]? = some v ∧ ms[i]? = some m ∧ SlotOk c H S H (if m then .b else .v) v d
  | [], [], [], _, _, _, h => by simp at h
  | true :: ms, v :: vs, d :: ds, 0, e, h, q => by simp at q; subst q; exact ⟨v, true, by simp, by simp, h.1⟩
  | false :: ms, v :: vs, d :: ds, 0, e, h, q => by simp at q; subst q; exact ⟨v, false, by simp, by simp, h.1⟩
  | true :: ms, v :: vs, d :: ds, i + 1, e, h, q => by
    obtain ⟨v, m, h1, h2, h3⟩ := RpM.get (i := i) h.2 (by simpa using q)
    exact ⟨v, m, by simpa using h1, by simpa using h2, h3⟩
  | false :: ms, v :: vs, d :: ds, i + 1, e, h, q => by
    obtain ⟨v, m, h1, h2, h3⟩ := RpM.get (i := i) h.2 (by simpa using q)
    exact ⟨v, m, by simpa using h1, by simpa using h2, h3⟩
  | [], _ :: _, _, _, _, h, _ => h.elim
  | [], [], _ :: _, _, _, h, _ => h.elim
  | true :: _, [], _, _, _, h, _ => h.elim
  | true :: _, _ :: _, [], _, _, h, _ => h.elim
  | false :: _, [], _, _, _, h, _ => h.elim
  | false :: _, _ :: _, [], _, _, h, _ => h.elim
theorem RpM.len {S H : Hp} : ∀ {ms : List Bool} {vs : List V} {ds : List D}, RpM c S H ms vs ds → vs.length = ms.length ∧ ds.length = ms.length
  | [], [], [], _ => ⟨rfl, rfl⟩
  | true :: ms, v :: vs, d :: ds, h => by have := RpM.len h.2; simp [this.1, this.2]
  | false :: ms, v :: vs, d :: ds, h => by have := RpM.len h.2; simp [this.1, this.2]
  | [], _ :: _, _, h => h.elim
  | [], [], _ :: _, h => h.elim
  | true :: _, [], _, h => h.elim
  | true :: _, _ :: _, [], h => h.elim
  | false :: _, [], _, h => h.elim
  | false :: _, _ :: _, [], h => h.elim
theorem kd_G0 {ms : List Bool} {n i : Nat} : ¬ isO (kd (G0 ms n) i) := by
  unfold kd G0
  rw [List.getD_eq_getElem?_getD, List.getElem?_append]
  split
  · rw [List.getElem?_map]
    cases ms[i]? with
    | none => intro h; cases h
    | some m => cases m <;> (intro h; cases h)
  · rw [List.getElem?_replicate]
    split <;> (intro h; cases h)
theorem kd_G0_sw {ms : List Bool} {n i : Nat} : (∀ P, kd (G0 ms n) i ≠ .s P) ∧ kd (G0 ms n) i ≠ .w := by
  unfold kd G0
  rw [List.getD_eq_getElem?_getD, List.getElem?_append]
  split
  · rw [List.getElem?_map]
    cases ms[i]? with
    | none => exact ⟨fun _ h => (by cases h), fun h => (by cases h)⟩
    | some m => cases m <;> exact ⟨fun _ h => (by cases h), fun h => (by cases h)⟩
  · rw [List.getElem?_replicate]
    split <;> exact ⟨fun _ h => (by cases h), fun h => (by cases h)⟩
theorem kd_G0_at {ms : List Bool} {n i : Nat} {m : Bool} (h : ms[i]? = some m) : kd (G0 ms n) i = if m then .b else .v := by
  unfold kd G0
  have hl : i < ms.length := (List.getElem?_eq_some_iff.mp h).1
  rw [List.getD_eq_getElem?_getD, List.getElem?_append, if_pos (by simpa using hl), List.getElem?_map, h]
  rfl
theorem startR_some {n i : Nat} {ds : List D} {d : D} (h : (startR n ds)[i]? = some (some d)) : ds[i]? = some d := by
  unfold startR at h
  rw [List.getElem?_append] at h
  split at h
  · rw [List.getElem?_map] at h
    cases q : ds[i]? with
    | none => rw [q] at h; cases h
    | some e => rw [q] at h; cases h; rfl
  · rw [List.getElem?_replicate] at h
    split at h <;> cases h
theorem env_start {N : List Str} {S H : Hp} {vs : List V} {ds : List D} (ex : Ex S H) (m : RpM c S H ms vs ds) (hn : ms.length ≤ N.length) (ht : ∀ P q, c.tb P q → LamX.TabS H P q := by intro _ _ z; exact False.elim z) : EnvOk c S H (G0 ms N.length) S H (L2.start N vs) (startR N.length ds) := by
  have hl := m.len
  refine ⟨Fwd.refl ex, by unfold L2.start startR; simp [hl.1, hl.2], fun i d h => ?_, fun i j d e p _ _ k _ _ _ => absurd k kd_G0, ⟨[], .nil (fun _ _ _ => kd_G0_sw) ht⟩⟩
  have hd := startR_some h
  obtain ⟨v, mm, h1, h2, h3⟩ := m.get hd
  refine ⟨v, ?_, by rw [kd_G0_at h2]; exact h3⟩
  unfold L2.start
  have hlt : i < vs.length := (List.getElem?_eq_some_iff.mp h1).1
  rw [List.getElem?_append, if_pos (by simpa using hlt), List.getElem?_map, h1]
  rfl
end
section
variable {P : Program} {w : World} {K : PySem.W.Frag} {mg : Str → Option Value} {base : Heap} {cm : CM}
abbrev cfE (K : PySem.W.Frag) (cm : CM) (rm : Bool) (E : XK) : Cf := ⟨K, cm, fun cls d _ H => E cls d H, none, rm, fun _ _ => False⟩
/-- THE RULE for a def: its body by data -/
theorem dok {x qual : Str} {st : Stmt} {f : Addr} {fd : FuncData} {N ps : List Str} {k : Nat} {ms : List Bool} {rm : Bool} {G' : List Ow} {Fb : Rho → SR} (F : Fun K x qual st f fd) (S : FnScope N ps (defScope st)) (hm : ms.length = ps.length) (hn : ps.length ≤ N.length)
    (hb : ∀ (cdv : Value) (A : Around) (outer : List Env) (s : Shared) (H : Hp) (E : XK), Room k (A.deeper (PyProof.Rows.envOfC qual (defScope st) s.heap.objs.size f cdv)) →
      PSs (cxOf (L2N.CX P w) P w K mg base N qual (defScope st) f cdv A outer s H E) (defBody st) (sD (cfE K cm rm E) [] (G0 ms N.length) G' Fb)) :
    FnOk P w K mg base (L2N.CX P w) (k + 1) f fd ps (spD K cm ms rm (runF N.length rm Fb)) := by
  refine F.okN S (fun vs H Q E h => ?_) (fun cdv A outer s H vs Q E hr h => ?_)
  · obtain ⟨S, ds, _, m, _⟩ := h
    rw [m.len.1, hm]
  · obtain ⟨S, ds, ex, m, q⟩ := h
    refine ⟨_, hb cdv A outer s H E hr, S, H, S, startR N.length ds, env_start ex (RpM.cf (c := ⟨K, cm, fun _ _ _ _ => False, none, rm, fun _ _ => False⟩) (c' := cfE K cm rm E) rfl rfl m) (by omega), ?_⟩
    unfold runF at q
    cases hF : Fb (startR N.length ds) with
    | rt d =>
      rw [hF] at q
      show PostS _ _ _ _ _ (.rt d) _
      unfold PostS
      dsimp only
      cases rm with
      | true => exact fun p ho S' H' fw n ns hp hh => q S' H' fw _ ⟨p, ho, rfl, n, ns, hp, hh⟩
      | false => exact fun v S' H' fw hv => q S' H' fw v hv
    | nx r =>
      rw [hF] at q
      cases rm with
      | true => exact q.elim
      | false => exact fun σ' S' H' ok => q S' H' ok.fwd _ Rp.non
    | er r n ns vs =>
      rw [hF] at q
      exact fun C dd σ' S' H' fs h1 fw _ h2 h3 h4 => q C dd S' H' fs h1 fw h2 h3 h4
    | bk r => rw [hF] at q; exact q.elim
    | ct r => rw [hF] at q; exact q.elim
    | bad => rw [hF] at q; exact q.elim
end
end Dx
end S_DxF
section S_DxG
set_option Elab.async false
set_option linter.all false
set_option maxRecDepth 100000
set_option maxHeartbeats 2000000
namespace L2N
open PySem PySem.Spec PyProof.Rows L2
/-- C(e, ..), C an own exception class; the made object's context is None -/
theorem pmk_oexN {X : Cx} {CX : CXT} {e : Expr} {es : List Expr} {ta : TA} {p pos : Pos} {x : Str} {C fI : Addr} {k : Nat} {fd : FuncData} {ps : List Str} {sp : Sp} {ds : List Value} {dvs : List V} (T : OexC X.K C)
    (iC : PySem.W.findIn X.K (.ref C) "__init__" = some (some (.ref fI))) (tI : PySem.W.typeIn X.K (.ref fI) = some (.type "function")) (F1 : FnOk X.prog X.w X.K X.mg X.base CX k fI fd ps sp) (hr : Room (k + 1) X.A)
    (hb : Binds X.K fd ps ds) (hd : Vals dvs ds) (hx : Passes CX X (fun _ _ _ => False)) (hg : Gl X x) (hm : X.mg x = some (.ref C)) (ha : PA X (e :: es) ta) (hdb : (x == ("__debug__" : Str)) = false := by decide)
    (he : starEach (e :: es) X.env = (false, eval e X.env) :: starEach es X.env := by rfl) (hpl : (backTo pos (starEach es X.env)).any (·.1) = false := by rfl) :
    PMk X (.Call (.Name x p) (e :: es) [] pos) (tMkO C sp dvs ta) := by
  intro pins s σ H Q I h
  obtain ⟨nm, q, N, bs, bm, sn, sub, ab, col, dd, k0, k1, k2, k3, k5, hC, hbm⟩ := T.cls
  refine wpAny_Call_Name_kw (ld_glob I hg hm (PySem.W.callWith_K (h₀ := X.base) I.ok.mod.kin T.kC (thn (ha.run pos pins s σ H _ I h) ?_) he hpl) hdb)
  rintro us ⟨hp, g, dr, tk, os⟩ ⟨vs, H1, I1, r1, hz, q1⟩
  refine ⟨I1.kIn, ?_⟩
  show wpAny _ _ (call (.ref C) us) _ _ _
  have hsz : hp.objs.size ≤ hp.objs.size + 1 := Nat.le_succ _
  have hq := q1 (hp.objs.size + 1) (I1.hok.fresh hsz)
  have kk : ∀ b o, hp.get? b = some o → ((hp.push (PySem.W.kdv_tup us)).push (PySem.HandSPX.excO C hp.objs.size)).get? b = some o := fun b o z =>
    Heap.get?_push_of_some _ (Heap.get?_push_of_some _ z)
  have I2 : Inv X pins σ (upd H1 (hp.objs.size + 1) (exo (hp.objs.size + 1) C none)) ⟨(hp.push (PySem.W.kdv_tup us)).push (PySem.HandSPX.excO C hp.objs.size), g, dr, tk, os⟩ :=
    I1.laid (t' := tk) (a := hp.objs.size + 1) kk hsz (exo_ok (by heap_get))
  have r2 : Vals (V.ref (hp.objs.size + 1) :: (vs ++ dvs)) (Value.ref (hp.objs.size + 1) :: (us ++ ds)) := .cons rfl (r1.append hd)
  have hl : (Value.ref (hp.objs.size + 1) :: us ++ ds).length = ps.length := (r2.length.symm.trans (F1.len _ _ _ _ hq))
  have hus : us.length ≤ sizeLine := by
    have z := Paired.length r1
    rw [sizeLine_eq]; omega
  refine wpAny_call (PySem.HandSPX.call_own F.excBase_ValueError (fun Y => PySem.HandSPX.refsVE_contains Y bm hbm) (I1.kIn _ _ hC) (PySem.W.looks_findIn I1.kIn iC) (fun self => PySem.W.bind_fn I1.kIn self tI) hus (codeAny_mono (F1.run _ X.stack _ _
    ⟨Value.ref (hp.objs.size + 1) :: us, []⟩ _ _ _ (fun _ _ _ => False) (hr.make C us []) (I2.env0.make C us []) (hb _ (Value.ref (hp.objs.size + 1) :: us) I2.kIn hl) r2 hq) fun r s' hq' => ?_))
  match r, hq' with
  | .error er, z => exact hx pins σ _ _ er s' I2 z
  | .ok (.ret u), z =>
    obtain ⟨h2, g2, d2, t2, os'⟩ := s'
    obtain ⟨v, H2, os2, bare2, un2, hok2, rv, rfl, d, fs, ea, ed, hd1, q2⟩ := z
    obtain ⟨t0, G, J, kG, ge, hoe, na⟩ := mk_end0 (d2 := d2) (t2 := t2) I1 hsz kk un2 hok2 os2 bare2 ea ed hd1
    exact ⟨rv, ⟨hp.objs.size + 1, _, _, ⟨G, g2, d2, t2, os'⟩, _, .ref C, some d, rfl, J, kG, ge, hoe, ⟨rfl, rfl, fun vs hv => by cases hv; rfl⟩, rfl, rfl, na, rfl, bare2, raises_own T.exC T.tyC, q2⟩⟩
  | .ok .next, z => exact z.elim
  | .ok .brk, z => exact z.elim
  | .ok .cont, z => exact z.elim
end L2N
namespace Dx
open PySem L2
section
variable {X : Cx} {c : Cf} {L G G' : List Ow}
def spX1 (K : PySem.W.Frag) (C : Addr) (f : Str) : Sp := fun vs H Q _ => ∃ (a : Addr) (w : V), vs = [.ref a, w] ∧ OexC K C ∧ PySem.W.findIn K (.ref C) f = some none ∧ H a = some (exo a C none) ∧
  ∀ d, H d = none → d ≠ a → Q .non (upd (upd H d (exd d [(f, w)])) a (exo a C (some d)))
theorem xinit1 {P : Program} {w : World} {K : PySem.W.Frag} {mg : Str → Option Value} {base : Heap} {qual : Str} {st : Stmt} {fI C : Addr} {fd : FuncData} {N ps : List Str} {fl : Str} (F : Fun K "__init__" qual st fI fd) (S : FnScope N ps (defScope st)) (hl : ps.length = 2) (hN : N.length = 2)
    (hb : ∀ (cdv : Value) (A : Around) (outer : List Env) (s : Shared) (H : Hp) (E : XK), PSs (cxOf (L2N.CX P w) P w K mg base N qual (defScope st) fI cdv A outer s H E) (defBody st) (tOst K fl (tVar 0) (tVar 1))) :
    FnOk P w K mg base (L2N.CX P w) 1 fI fd ps (spX1 K C fl) := by
  refine F.okN (k := 0) S (fun vs H Q E h => ?_) (fun cdv A outer s H vs Q E hr h => ?_)
  · obtain ⟨a, w, rfl, _⟩ := h; exact hl.symm
  · obtain ⟨a, w', rfl, T, hno, ha, q⟩ := h
    refine ⟨_, hb cdv A outer s H E, ?_⟩
    have e : L2.start N [.ref a, w'] = [some (.ref a), some w'] := by unfold L2.start; rw [hN]; rfl
    rw [e]
    exact ⟨w', rfl, .ref a, rfl, a, C, rfl, T, hno, .inl ⟨ha, q⟩⟩
def raiF (n : Str) (ns : List Str) (rev : Bool) (fs : Rho → Res (List D)) : Rho → SR := fun r => liftS r (fs r) fun ds => if ds.length = ns.length then .er r n ns (if rev then ds.reverse else ds) else .bad
variable {e e2 : Expr} {fs : Rho → Res (List D)} {x n : Str} {C fI : Addr} {fd : FuncData} {ps : List Str} {p p' pos : Pos} {fl gl : Str}
theorem heap_x1 {H1 : Hp} {a d C : Addr} {o1 o2 o3 o4 o : HO} (ha : H1 a = none) (hne : d ≠ a) : upd (del (upd (upd (upd H1 a o1) d o2) a o3) a) d o = upd H1 d o := by
  funext b
  by_cases hb : b = d
  · subst hb; rw [upd_same, upd_same]
  · rw [upd_ne hb, upd_ne hb]
    by_cases hba : b = a
    · subst hba; rw [del_same, ha]
    · rw [del_ne hba, upd_ne hba, upd_ne hb, upd_ne hba]
theorem ds_raise1 (hg : Gok c G) (hcn : c.cm n = some C) (hc : X.calm = true) (tk : L2N.Takes X c.W) (T : OexC X.K C) (iC : PySem.W.findIn X.K (.ref C) "__init__" = some (some (.ref fI))) (tI : PySem.W.typeIn X.K (.ref fI) = some (.type "function")) (hno : PySem.W.findIn X.K (.ref C) fl = some none)
    (F1 : FnOk X.prog X.w X.K X.mg X.base (L2N.CX X.prog X.w) 1 fI fd ps (spX1 X.K C fl)) (hr : Room 2 X.A) (hb : Binds X.K fd ps []) (hgx : Gl X x) (hm : X.mg x = some (.ref C)) (ha : PA X [e] (tAs c G fs))
    (hdb : (x == ("__debug__" : Str)) = false := by decide) (he : starEach [e] X.env = (false, eval e X.env) :: starEach [] X.env := by rfl) :
    PS X (.Raise (some (.Call (.Name x p) [e] [] p')) none pos) (sD c L G G' (raiF n [fl] false fs)) :=
  ps_imp (L2N.ps_raise hc tk (L2N.pmk_oexN T iC tI F1 hr hb .nil L2N.passLN hgx hm ha hdb he rfl)) fun E σ H ⟨S0, H0, S, r, ok, q⟩ => st_seq hg ok q fun ds vs S1 H1 w1 o1 m1 p1 => by
    obtain ⟨hl, p1⟩ := p1.ite
    match ds, vs, m1, hl with
    | [d1], [v1], .cons hv .nil, _ =>
      refine ⟨by show 1 ≤ 1000; decide, fun a na => ⟨a, v1, rfl, T, hno, upd_same, fun d hd hne => ⟨rfl, d, [(fl, v1)], upd_same, by rw [upd_ne hne, upd_same], by rw [upd_ne hne] at hd; exact hd, ?_⟩⟩⟩
      rw [upd_ne hne] at hd
      rw [heap_x1 (C := C) (o4 := .lst []) na hne]
      exact p1 C d σ (upd S1 d (.xd [(fl, v1)])) _ [(fl, v1)] hcn (o1.fwd.trans (Fwd.both o1.ex hd)) (fun g hgg => by rw [hg g hgg]; exact o1.go (Fwd.both o1.ex hd)) upd_same rfl (.cons (hv.mono (Ex.new (o1.ex.nn hd))) .nil)
/-- the kinds told ahead; what they are is the same whatever the wishes -/
theorem EnvOk.cf {c' : Cf} {S0 H0 S H : Hp} {σ : St} {r : Rho} (e : EnvOk c S0 H0 G S H σ r) (hK : c'.K = c.K) (hcm : c'.cm = c.cm) (htb : c'.tb = c.tb := by rfl) : EnvOk c' S0 H0 G S H σ r := by
  refine ⟨e.fwd, e.len, fun j d h => ?_, e.sep, by rw [hK, hcm, htb]; exact e.sto⟩
  obtain ⟨v, q1, q2⟩ := e.slot j d h
  refine ⟨v, q1, ?_⟩
  cases kj : kd G j with
  | v => rw [kj] at q2; unfold SlotOk at q2 ⊢; rw [hK, hcm]; exact q2
  | o => rw [kj] at q2; unfold SlotOk at q2 ⊢; rw [hK, hcm]; exact q2
  | b => rw [kj] at q2; unfold SlotOk at q2 ⊢; rw [hK, hcm]; exact q2
  | s P => rw [kj] at q2; exact q2
  | w => rw [kj] at q2; exact q2
  | j a0 fs0 => rw [kj] at q2; unfold SlotOk at q2 ⊢; rw [hcm]; exact q2
  | x a C dd => rw [kj] at q2; unfold SlotOk at q2 ⊢; rw [hK, hcm]; exact q2
  | i a => rw [kj] at q2; unfold SlotOk at q2 ⊢; rw [hK, hcm]; exact q2
def lookF (ns : List Str) (vs : List D) (f : Str) : Option D := (ns.zip vs).lookup f
theorem look_rp {K : PySem.W.Frag} {cm : CM} {S : Hp} {f : Str} {d : D} : ∀ {fs : List (Str × V)} {vs : List D}, RpA K cm S (fs.map (·.2)) vs → lookF (fs.map (·.1)) vs f = some d → ∃ v, fs.lookup f = some v ∧ Rp K cm S v d
  | [], vs, h, q => by cases h; cases q
  | (g, u) :: fs, _, h, q => by
    cases h with | @cons _ _ d' ds hu hr =>
    unfold lookF at q
    rw [List.map_cons, List.zip_cons_cons, List.lookup_cons] at q
    rw [List.lookup_cons]
    by_cases hfg : (f == g) = true
    · rw [hfg] at q ⊢; cases q; exact ⟨u, rfl, hu⟩
    · have : (f == g) = false := by simpa using hfg
      rw [this] at q ⊢
      exact look_rp hr q
end
end Dx
end S_DxG
section S_DxT
set_option Elab.async false
set_option linter.all false
set_option maxRecDepth 100000
set_option maxHeartbeats 2000000
namespace Dx
open PySem L2
theorem gok0 {K : PySem.W.Frag} {cm : CM} {rm : Bool} {E : XK} {G : List Ow} : Gok (cfE K cm rm E) G := fun _ h => nomatch h
theorem hu65 {k : Nat} {A : Around} (hr : Room k A) : A.units + 65 < cLine := by have := hr.un; omega
theorem fnok_bad {P : Program} {w : World} {K : PySem.W.Frag} {mg : Str → Option Value} {base : Heap} {CX : CXT} {k : Nat} {f : Addr} {fd : FuncData} {ps : List Str} {cm : CM} {ms : List Bool} {rm : Bool} : FnOk P w K mg base CX k f fd ps (spD K cm ms rm fun _ => .bad) :=
  ⟨fun _ _ _ _ ⟨_, _, _, _, h⟩ => h.elim, fun _ _ _ _ _ _ _ _ _ _ _ _ _ ⟨_, _, _, _, h⟩ => h.elim⟩
theorem ints_rp {K : PySem.W.Frag} {cm : CM} {S : Hp} : ∀ ns : List Int, RpA K cm S (ns.map V.int) (ns.map D.int)
  | [] => .nil
  | n :: ns => .cons (.int n) (ints_rp ns)
theorem law_sp {K : PySem.W.Frag} {cm : CM} {F : List D → Res D} {ns : List Int} {H : Hp} {a : Addr} {Q : VK} {E : XK} (h : F [.fz (ns.map D.int)] = .ok (.bl true)) (hS : SqL K H a (ns.map V.int)) (k : ∀ H', Q (.bl true) H') : spD K cm [false] false F [.ref a] H Q E :=
  ⟨H, [.fz (ns.map D.int)], Ex.refl, ⟨.fz hS (ints_rp ns), trivial⟩, by
    rw [h]
    intro S' H' w b hb
    cases hb
    exact k H'⟩
theorem cx_never {P : Program} {w : World} {outer : List Env} {H : Hp} {s s' : Shared} {e : Value} (h : L2N.CX P w outer H s (fun _ _ _ => False) e s') : False := by
  obtain ⟨_, _, _, _, _, _, _, _, _, _, _, _, hf⟩ := h
  exact hf
section
variable {X : Cx} {c : Cf} {L G G' : List Ow} {f f1 f2 : Rho → Res D} {o e : Expr} {pos apos : Pos}
def asS : D → Res Str
  | .str s => .ok s
  | _ => .bad
def dStr (g : D → D → Res D) (f1 f2 : Rho → Res D) : Rho → Res D := fun r => (f1 r).bind fun x => (asS x).bind fun _ => (f2 r).bind fun y => g x y
def strsD (zs : List Str) : List D := zs.map .str
noncomputable def splitD : D → D → Res D
  | .str a, .str b => guard ((b.length == 0) = false ∧ a.length + 2 ≤ sizeLine) (.ok (.lst (strsD (Txt.split a b))))
  | _, _ => .bad
def startD : D → D → Res D
  | .str a, .str b => .ok (.bl (Txt.startswith a b))
  | _, _ => .bad
def endD : D → D → Res D
  | .str a, .str b => .ok (.bl (Txt.endswith a b))
  | _, _ => .bad
noncomputable def ordX : D → Res D
  | .str x => guard (x.length = 1) (.ok (.int (x.cps.getD 0 0 : Nat)))
  | _ => .bad
noncomputable def fmtD : D → Res D
  | .str y => guard (y.length ≤ sizeLine) (.ok (.str y))
  | .int i => guard (i.natAbs.log2 < 1920) (.ok (.str (toString i)))
  | _ => .bad
def dJnil : Str → Rho → Res D := fun acc _ => .ok (.str acc)
noncomputable def dJcons (f : Rho → Res D) (g : Str → Rho → Res D) : Str → Rho → Res D := fun acc r => (f r).bind fun d => (asS d).bind fun y => guard ((acc ++ y).length ≤ sizeLine) (g (acc ++ y) r)
def dJoin (g : Str → Rho → Res D) : Rho → Res D := g Str.empty
noncomputable def truB : D → Res Bool
  | .non => .ok false
  | .bl b => .ok b
  | .int i => .ok (i != 0)
  | .str y => guard (y.length ≤ sizeLine) (.ok ((y.length : Int) != 0))
  | .lst ds => .ok (!ds.isEmpty)
  | .fz ds => .ok (!ds.isEmpty)
  | .tup ds => .ok (!ds.isEmpty)
  | _ => .bad
noncomputable def dTru (f : Rho → Res D) : Rho → Res Bool := fun r => (f r).bind truB
theorem RpA.empty {K : PySem.W.Frag} {cm : CM} {S : Hp} {vs : List V} {ds : List D} (h : RpA K cm S vs ds) : (!ds.isEmpty) = !vs.isEmpty := by cases h <;> rfl
def augF (i : Nat) (g : D → D → Res D) (f : Rho → Res D) : Rho → SR := fun r => liftS r (dVar i r) fun x => liftS r (f r) fun y => liftS r (g x y) fun z => .nx (r.set i (some z))
end
end Dx
end S_DxT
section S_DxS
set_option Elab.async false
set_option linter.all false
set_option maxRecDepth 100000
set_option maxHeartbeats 2000000
namespace Dx
open PySem L2
/-- new own lists that stand in each other -/
def mG (c : Cf) : Md V D := fun H S' H' v d => ∃ k M A, d = .st k M ∧ A.Nodup ∧ A.length = M.length ∧ (∃ a, A[k]? = some a ∧ v = .ref a) ∧ (∀ a ∈ A, H a = none ∧ S' a = none) ∧
  ∀ (n : Nat) row, M[n]? = some row → ∃ a xs, A[n]? = some a ∧ H' a = some (.lst xs) ∧ RmA c.K c.cm A S' xs row
instance {c : Cf} : Anti (mG c) := ⟨fun e ⟨k, M, A, h1, h2, h3, h4, h5, h6⟩ => ⟨k, M, A, h1, h2, h3, h4, fun a ha => ⟨e.nn (h5 a ha).1, (h5 a ha).2⟩, h6⟩⟩
section
variable {X : Cx} {c : Cf} {L G G' : List Ow} {σ : St} {S0 H0 S H S' H' : Hp} {r : Rho}
variable {e : Expr} {pos : Pos} {f : Rho → Res D}
def isOwn : D → Bool
  | .own _ => true
  | .st _ _ => true
  | _ => false
theorem RmA.plain {A : List Addr} {xs : List V} {row : List D} (h : RmA c.K c.cm A S xs row) (hp : row.all (fun d => !isOwn d) = true) : RpA c.K c.cm S xs row := by
  obtain ⟨hl, h⟩ := h
  induction row generalizing xs with
  | nil =>
    cases xs with
    | nil => exact .nil
    | cons _ _ => cases hl
  | cons d row ih =>
    cases xs with
    | nil => cases hl
    | cons v xs =>
      rw [List.all_cons, Bool.and_eq_true] at hp
      refine .cons ?_ (ih hp.2 (by simpa using hl) fun i v d hv hd => h (i + 1) v d (by simpa using hv) (by simpa using hd))
      rcases h 0 v d rfl rfl with z | ⟨k, a, rfl, _⟩
      · exact z
      · cases hp.1
theorem RmA.atI {A : List Addr} {xs : List V} {row : List D} {j : Int} {d : D} (h : RmA c.K c.cm A S xs row) (q : L2.atI row j = some d) : ∃ v, L2.atI xs j = some v ∧ RmV c.K c.cm A S v d := by
  unfold L2.atI at q ⊢
  rw [h.1]
  cases hj : ixN row.length j with
  | none => rw [hj] at q; cases q
  | some n =>
    rw [hj] at q
    have q : row[n]? = some d := q
    have hlt : n < xs.length := by rw [h.1]; exact (List.getElem?_eq_some_iff.mp q).1
    exact ⟨xs[n], List.getElem?_eq_getElem hlt, h.2 n _ d (List.getElem?_eq_getElem hlt) q⟩
theorem RmA.set {A : List Addr} {xs : List V} {row : List D} {v : V} {d : D} (h : RmA c.K c.cm A S xs row) (hv : Rp c.K c.cm S v d) (n : Nat) : RmA c.K c.cm A S (xs.set n v) (row.set n d) := by
  refine ⟨by rw [List.length_set, List.length_set]; exact h.1, fun i u e hu he => ?_⟩
  rw [List.getElem?_set] at hu he
  split at hu
  · rename_i hni
    rw [if_pos hni] at he
    split at hu
    · cases hu
      split at he
      · cases he; exact .inl hv
      · cases he
    · cases hu
  · rename_i hni
    rw [if_neg hni] at he
    exact h.2 i u e hu he
end
end Dx
end S_DxS
section S_DxU
set_option Elab.async false
set_option linter.all false
set_option maxRecDepth 100000
set_option maxHeartbeats 2000000
namespace Dx
open PySem L2
def optL (g : D → Option D) : List D → Option (List D)
  | [] => some []
  | d :: ds => match g d, optL g ds with
    | some e, some es => some (e :: es)
    | _, _ => none
def derefD : Nat → List (List D) → D → Option D
  | _, _, .st _ _ => none
  | 0, _, .own _ => none
  | n + 1, M, .own k => match M[k]? with
    | some row => match optL (derefD n M) row with
      | some ds => some (.lst ds)
      | none => none
    | none => none
  | _, _, d => some d
section
variable {X : Cx} {c : Cf} {L G G' : List Ow} {σ : St} {S0 H0 S H S' H' : Hp} {r : Rho}
/-- all the own lists of slot i become values; the slots ws, that hold some of them, are given up -/
def pubF (n i : Nat) (ws : List Nat) : Rho → SR := fun r => match r[i]? with
  | some (some (.st k M)) => match derefD n M (.own k) with
    | some d => .nx ((wipeR r ws).set i (some d))
    | none => .bad
  | _ => .bad
end
end Dx
end S_DxU
section S_DxV
set_option Elab.async false
set_option linter.all false
set_option maxRecDepth 100000
set_option maxHeartbeats 2000000
namespace Dx
open PySem L2
section
variable {prog : Program} {w : World} {A : Around} {E : Value → Shared → Prop} {s : Shared}
theorem drawsT (hh : A.handled = none) (it l : Addr) (hne : l ≠ it) (its : Array Value) : Draws prog w A it [it, l] its.size (fun i v => its[i]? = some v) (fun i h => h.IsTupleIter it l i ∧ h.IsTuple l its) where
  live := fun _ _ st => let ⟨o, ho, _⟩ := st.1; ⟨o, ho⟩
  frame := fun _ _ _ st hk => ⟨st.1.at fun o z => hk it (by simp) o z, let ⟨o, ho, r⟩ := st.2; ⟨o, hk l (by simp) o ho, r⟩⟩
  item := fun i s Q E hi st hQ => RZ.nextOf_tuple_item st.1 st.2 (x := its[i]) (by simp [hi]) fun h' h1 h2 =>
    hQ _ h' s.toks (by simp [hi]) ⟨h1, st.2.extBut h2.extBut hne⟩ h2
  done := fun s Q E st hE => RZ.nextOf_tuple_end hh st.1 st.2 (by simp) hE
theorem meets_enT (l : Addr) (its : Array Value) (n : Nat) (dct : Option Addr) (sl : Array (Option Value)) :
    Meets (Builtin.«enumerate.__new__» ⟨[.type "enumerate", .ref l], []⟩) (fun _ R s => s.heap.get? l = some { cls := .type "tuple", dict := dct, data := .seq its n, slots := sl } ∧
      R (.ok (.ret (.ref (s.heap.push { cls := .type "tuple_iterator", data := .fields #[.ref l, .int 0 0] }).objs.size)))
        { s with heap := (s.heap.push { cls := .type "tuple_iterator", data := .fields #[.ref l, .int 0 0] }).push { cls := .type "enumerate", data := .fields #[.none, .bool false, .ref s.heap.objs.size, rawInt 0, .none, .none] } }) :=
  .of_wp fun prog w A R s h => by
    obtain ⟨hp, g, d, tk, os⟩ := s; obtain ⟨hl, h⟩ := h
    have hsub := sub_enumerate
    have hT : Heap.IsTuple (Shared.heap ⟨hp, g, d, tk, os⟩) l its := ⟨_, hl, rfl, n, rfl⟩
    wp_walk using AutoSeq1.wpAny_loadPart' hl
    refine wpAny_stack_any fun st => wpAny_pure ?_
    split
    · rename_i c _ _ _ _ _
      cases (c == Value.type "enumerate")
      · wp_walk using AutoSeq1.wpAny_loadPart' hl, wpAny_pyIter_tuple hT
        exact ⟨_, rfl, h⟩
      · wp_walk using AutoSeq1.wpAny_loadPart' hl, wpAny_pyIter_tuple hT
        exact ⟨_, rfl, h⟩
    · wp_walk using AutoSeq1.wpAny_loadPart' hl, wpAny_pyIter_tuple hT
      exact ⟨_, rfl, h⟩
theorem call_enT {l : Addr} {its : Array Value} {Q : Value → Shared → Prop} (hL : s.heap.IsTuple l its)
    (h : ∀ h', IsEnum h' (s.heap.objs.size + 1) s.heap.objs.size 0 .none → h'.IsTupleIter s.heap.objs.size l 0 →
      (∀ b o, s.heap.get? b = some o → h'.get? b = some o) → Q (.ref (s.heap.objs.size + 1)) { s with heap := h' }) :
    wpAny (model prog w) A (call (.type "enumerate") [.ref l]) Q E s := by
  obtain ⟨⟨c, dct, dt, sl⟩, hl, hc, n, hd⟩ := hL
  replace hc : c = .type "tuple" := hc
  replace hd : dt = .seq its n := hd
  subst hc hd
  refine callType_new F.called_enumerate (by decide) (F.typeCall_enumerate_1 _) (F.newCall_enumerate_1 _) (fun obj => F.args_object_init_2 obj _) F.entry_enumerate_new (meets_enT l its n dct sl) ⟨hl, ?_⟩
  have hz : (s.heap.push { cls := .type "tuple_iterator", data := .fields #[.ref l, .int 0 0] }).objs.size = s.heap.objs.size + 1 := Heap.size_push ..
  show _ ∧ _
  rw [hz]
  have he : IsEnum ((s.heap.push { cls := .type "tuple_iterator", data := .fields #[.ref l, .int 0 0] }).push
      { cls := .type "enumerate", data := .fields #[.none, .bool false, .ref s.heap.objs.size, rawInt 0, .none, .none] }) (s.heap.objs.size + 1) s.heap.objs.size 0 .none := by
    have := Heap.get?_push_size (s.heap.push { cls := .type "tuple_iterator", data := .fields #[.ref l, .int 0 0] })
      (o := { cls := .type "enumerate", data := .fields #[.none, .bool false, .ref s.heap.objs.size, rawInt 0, .none, .none] }) rfl
    rw [hz] at this; exact this
  exact ⟨⟨_, he, rfl⟩, h _ he ⟨_, Heap.get?_push_of_some _ (Heap.get?_push_size _ rfl), rfl, rfl⟩ fun b o x => Heap.get?_push_of_some _ (Heap.get?_push_of_some _ x)⟩
end
def IteT (K : PySem.W.Frag) (a : Addr) : It :=
  ⟨fun i H => ∃ (xs : List V) (x : V), SqT K H a xs ∧ xs[i]? = some x, fun i H v H' => ∃ T x, v = .ref T ∧ H T = none ∧ H' = upd H T (.tup [.int (i : Nat), x]) ∧ ∀ xs, SqT K H a xs → xs[i]? = some x, fun i H => ∃ xs : List V, SqT K H a xs ∧ xs.length ≤ i⟩
theorem turn_enT {P : Program} {w : World} {K : PySem.W.Frag} {elts : List Expr} {kk : Nat} {tpos : Pos} (a e it : Addr) (hai : a ≠ it) (hae : a ≠ e) :
    Turn P w K (.Tuple elts kk tpos) (IteT K a) [e, it] e (fun i h => (∃ old, IsEnum h e it ((i : Nat) : Int) old) ∧ h.IsTupleIter it a i ∧ e ≠ it) where
  mem := by simp
  obj := fun i h st b hb => by
    obtain ⟨⟨old, he⟩, ⟨o, ho, hc, hd⟩, _⟩ := st
    have e' : b = e ∨ b = it := by simpa using hb
    rcases e' with z | z
    · rw [z]; exact ⟨_, he, fun v q => nomatch q⟩
    · rw [z]; exact ⟨o, ho, fun v q => by rw [hd] at q; cases q⟩
  keep := fun i h h' st k => let ⟨⟨old, he⟩, hi, hne⟩ := st; ⟨⟨old, k e (by simp) _ he⟩, hi.at fun o q => k it (by simp) o q, hne⟩
  item := by
    intro X hP hw hK hc i pins s σ H E I hf st hg
    subst hP hw hK
    obtain ⟨⟨old, he⟩, hit, hne⟩ := st
    obtain ⟨xs, x, hq, hx⟩ := hg
    obtain ⟨its, rv, p, hz⟩ := I.tuple hq
    obtain ⟨u, hu, ru⟩ := rv.get hx
    have hel : e < s.heap.objs.size := Heap.lt_size he
    have hil : it < s.heap.objs.size := by obtain ⟨_, q, _⟩ := hit; exact Heap.lt_size q
    have hiu : its.toArray[i]? = some u := by simpa using hu
    have dr : Draws X.prog X.w X.A.in1 it [it, a] its.toArray.size (fun i v => its.toArray[i]? = some v) (fun i h => h.IsTupleIter it a i ∧ h.IsTuple a its.toArray) := drawsT (show X.A.in1.handled = none from I.ok.hd hc) it a hai its.toArray
    have hea : e ∉ [it, a] := by simp [hne, Ne.symm hae]
    refine wpAny_pyNext_enum_itemD dr he ⟨hit, p⟩ (Array.getElem?_eq_some_iff.mp hiu).1 hne hea fun u' h' tk hu' ho hst hT hsz hk => ?_
    rw [hiu] at hu'; cases hu'
    refine ⟨_, rfl, wpAny_letOwnedTupleGo_enum (s := { s with heap := h', toks := tk + 1 }) ho fun h'' he' sb => ?_⟩
    have hT2 : h''.get? s.heap.objs.size = some { cls := .type "tuple", data := .seq #[.int i tk, u] } := (sb.2 _ (Nat.ne_of_gt hel)).trans hT
    have new : ObjOk X.prog X.w (upd H s.heap.objs.size (.tup [.int (i : Nat), x])) h'' s.heap.objs.size (.tup [.int (i : Nat), x]) :=
      ⟨by show 2 ≤ sizeLine; decide, [.int i tk, u], .cons ⟨_, rfl⟩ (.cons ru .nil), ⟨_, hT2, rfl, _, rfl⟩⟩
    have I1 : Inv X pins σ (upd H s.heap.objs.size (.tup [.int (i : Nat), x])) { s with heap := h'', toks := tk + 1 } :=
      I.turnedNew (ch := [e, it]) (fun b ob hb q => (sb.2 b (fun z => hb (by simp [z]))).trans (hk b ob (fun z => hb (by simp [z])) (fun z => hb (by simp [z])) q)) hf (Nat.le_refl _) new
    refine ⟨.ref s.heap.objs.size, _, I1, rfl, ⟨_, x, rfl, I.hok.fresh (Nat.le_refl _), rfl, fun ys hy => by rw [I.tuple_inj hy hq]; exact hx⟩, ⟨⟨u, ?_⟩, hst.1.at fun o q => (sb.2 it (Ne.symm hne)).trans q, hne⟩, fun b hb => ?_⟩
    · have e1 : ((i + 1 : Nat) : Int) = (i : Int) + 1 := by omega
      rw [e1]; exact he'
    · have hb' : b < s.heap.objs.size := by
        have e' : b = e ∨ b = it := by simpa using hb
        rcases e' with z | z
        · rw [z]; exact hel
        · rw [z]; exact hil
      rw [upd_ne (Nat.ne_of_lt hb')]
      exact (hf b hb).1
  done := by
    intro X hP hw hK hc i pins s σ H E I hf st hg
    subst hP hw hK
    obtain ⟨⟨old, he⟩, hit, hne⟩ := st
    obtain ⟨xs, hq, hx⟩ := hg
    obtain ⟨its, rv, p, hz⟩ := I.tuple hq
    obtain ⟨f0, f1, f2, f3, f4, f5⟩ := hf it (by simp)
    have hl := rv.length
    have dr : Draws X.prog X.w X.A.in1 it [it, a] i (fun _ _ => False) (fun j h => j = i ∧ h.IsTupleIter it a i ∧ h.IsTuple a its.toArray) :=
      { live := fun _ _ st => let ⟨o, ho, _⟩ := st.2.1; ⟨o, ho⟩
        frame := fun _ _ _ st hk => ⟨st.1, st.2.1.at fun o z => hk it (by simp) o z, let ⟨o, ho, r⟩ := st.2.2; ⟨o, hk a (by simp) o ho, r⟩⟩
        item := fun j s Q E hi st hQ => absurd st.1 (Nat.ne_of_lt hi)
        done := fun s Q E st hE => RZ.nextOf_tuple_end (show X.A.in1.handled = none from I.ok.hd hc) st.2.1 st.2.2 (by simp; omega) hE }
    exact wpAny_pyNext_enum_endD dr he ⟨rfl, hit, p⟩ fun h' eb => ⟨rfl, I.turned (t' := s.toks) (fun b o hb q => eb b o hb q) f0 f1 f3 f4 f5⟩
  self := fun A i s Q E st h => let ⟨⟨_, he⟩, _⟩ := st; wpAny_pyIter_enum he h
def iEnT (K : PySem.W.Frag) (ta : TA) : TI := fun σ H R => ta σ H fun vs H1 => ∃ a xs, vs = [.ref a] ∧ SqT K H1 a xs ∧ R (IteT K a) H1
theorem pi_enT {X : Cx} {e : Expr} {ta : TA} {p pos tpos : Pos} {elts : List Expr} {kk : Nat} (hg : Gl X "enumerate") (hm : X.mg "enumerate" = none) (ha : PA X [e] ta) (hs : starEach [e] X.env = [(false, eval e X.env)] := by rfl) :
    PI X (.Tuple elts kk tpos) (.Call (.Name "enumerate" p) [e] [] pos) (iEnT X.K ta) := by
  refine ⟨fun pins s σ H R I h => ?_⟩
  refine PyProof.Rows.Call_ (ld_blt I hg hm PyProof.Rows.boot_enumerate (PyProof.Rows.callWith_type1 (thn (ha.run pos pins s σ H _ I h) fun us s1 ⟨vs, H1, I1, r1, q1⟩ => ?_) hs rfl))
  obtain ⟨a, xs, ex, hq, q⟩ := q1
  subst ex
  cases r1 with
  | cons r rr =>
    cases rr
    cases r
    obtain ⟨its, rv, p', hz⟩ := I1.tuple hq
    have hal : a < s1.heap.objs.size := by obtain ⟨o, ho, _⟩ := p'; exact Heap.lt_size ho
    refine call_enT p' fun h' he hit hk => wpAny_pyIter_enum he ?_
    have I2 : Inv X pins σ H1 { s1 with heap := h' } := I1.kept (t' := s1.toks) hk
    refine ⟨s1.heap.objs.size + 1, [s1.heap.objs.size + 1, s1.heap.objs.size], _, _, H1, rfl, I2, turn_enT a (s1.heap.objs.size + 1) s1.heap.objs.size (Nat.ne_of_lt hal) (Nat.ne_of_lt (Nat.lt_succ_of_lt hal)), ⟨⟨.none, he⟩, hit, Nat.succ_ne_self _⟩, fun b hb => ?_, q⟩
    have e' : b = s1.heap.objs.size + 1 ∨ b = s1.heap.objs.size := by simpa using hb
    have hle : s1.heap.objs.size ≤ b := by
      rcases e' with z | z
      · rw [z]; exact Nat.le_add_right _ _
      · rw [z]; exact Nat.le_refl _
    exact I1.fpOk hle (I1.hok.fresh hle)
theorem walk_enT {K : PySem.W.Frag} {a : Addr} {xs : List V} : Walk (IteT K a) xs.length (fun H => SqT K H a xs) (YPair (fun i => some (.int (i : Nat))) (fun i => xs[i]?)) := by
  refine ⟨fun i _ hi q => ⟨xs, xs[i], q, by simp [hi]⟩, fun _ q => ⟨xs, q, Nat.le_refl _⟩, fun i H v H' _ q y => ?_⟩
  obtain ⟨T, x, h1, h2, h3, h4⟩ := y
  exact ⟨T, .int (i : Nat), x, h1, h2, h3, rfl, h4 xs q⟩
/-- each item with its number -/
def numd : Nat → List D → List D
  | _, [] => []
  | n, d :: ds => .tup [.int (n : Int), d] :: numd (n + 1) ds
theorem numd_len : ∀ (ds : List D) (n : Nat), (numd n ds).length = ds.length
  | [], _ => rfl
  | d :: ds, n => by rw [numd, List.length_cons, List.length_cons, numd_len ds (n + 1)]
theorem numd_get : ∀ (ds : List D) (n i : Nat) (d : D), ds[i]? = some d → (numd n ds)[i]? = some (.tup [.int ((n + i : Nat) : Int), d])
  | [], _, _, _, h => by simp at h
  | d :: ds, n, 0, e, h => by simp at h; subst h; simp [numd]
  | d :: ds, n, i + 1, e, h => by
    have := numd_get ds (n + 1) i e (by simpa using h)
    rw [numd, List.getElem?_cons_succ, this, show n + 1 + i = n + (i + 1) by omega]
section
variable {X : Cx} {c : Cf} {G : List Ow} {f : Rho → Res D} {e : Expr} {pos : Pos}
theorem YOk.num {S : Hp} {xs : List V} {ds : List D} (rr : RpA c.K c.cm S xs ds) : YOk c S (numd 0 ds) (YPair (fun i => some (.int (i : Nat))) (fun i => xs[i]?)) := by
  intro i S1 H1 x H2 hi e1 e2 y
  obtain ⟨T, a, b, rfl, h1, rfl, h2, h3⟩ := y
  cases h2
  obtain ⟨d, g1, g2⟩ := rr.getV h3
  refine ⟨upd S1 T (.tup [.int (i : Nat), b]), .tup [.int ((0 + i : Nat) : Int), d], Fwd.both e2 h1, numd_get ds 0 i d g1, ?_⟩
  rw [Nat.zero_add]
  have ex : Ex S1 (upd S1 T (.tup [.int (i : Nat), b])) := Ex.new (e2.nn h1)
  exact .tup upd_same (.cons (.int _) (.cons ((g2.mono e1).mono ex) .nil))
def itemsF (d : D) : Res (List D) := match d with
  | .lst ds => .ok ds
  | .fz ds => .ok ds
  | _ => .bad
def enumL (d : D) : Res (List D) := (itemsF d).bind fun ds => .ok (numd 0 ds)
def enumT (d : D) : Res (List D) := (itemsT d).bind fun ds => .ok (numd 0 ds)
end
end Dx
end S_DxV
section S_DxW
set_option Elab.async false
set_option linter.all false
set_option maxRecDepth 100000
set_option maxHeartbeats 2000000
namespace Dx
open PySem L2 PyProof.Rows
end Dx
end S_DxW
section S_DxX
set_option Elab.async false
set_option linter.all false
set_option maxRecDepth 100000
set_option maxHeartbeats 2000000
namespace Dx
open PySem L2
section
variable {X : Cx} {c : Cf} {L G G' : List Ow} {f f1 f2 : Rho → Res D} {a b e : Expr} {pos : Pos} {tg : Expr}
/-- sum of a list of ints -/
def allInt : List D → Option (List Int)
  | [] => some []
  | .int i :: ds => match allInt ds with
    | some is => some (i :: is)
    | none => none
  | _ => none
def sumD : D → Res D
  | .lst ds => match allInt ds with
    | some is => .ok (.int is.sum)
    | none => .bad
  | _ => .bad
theorem RpA.ints {S : Hp} : ∀ {vs : List V} {ds : List D} {is : List Int}, RpA c.K c.cm S vs ds → allInt ds = some is → vs = is.map V.int
  | _, [], _, h, q => by cases h; cases q; rfl
  | _, d :: ds, is, h, q => by
    cases h with
    | cons h1 h2 =>
      unfold allInt at q
      cases d with
      | int i =>
        dsimp only at q
        split at q
        · rename_i js hj
          cases q
          cases h1
          rw [RpA.ints h2 hj]; rfl
        · cases q
      | _ => cases q
theorem cs_sum : CallS c (mV c) (rSum c.K) [true] (g1 sumD) := by
  intro σ S H vs ds Q ex m p
  obtain ⟨v, d, rfl, rfl, h⟩ := m.one
  cases d with
  | lst ds =>
    obtain ⟨q, xs, rfl, a1, r1⟩ := h.list ex
    replace p : PostG c σ S H (match allInt ds with | some is => Res.ok (D.int is.sum) | none => .bad) (fun a S' H' => ∀ b, mV c H S' H' b a → Q b H') := p
    split at p
    · rename_i is hi
      refine ⟨q, is, rfl, .inl (.inl ?_), p.here ex (.int _)⟩
      rw [← r1.ints hi]; exact a1
    · exact p.elim
  | _ => exact p.elim
theorem RpA.dropLast {S : Hp} {vs : List V} {ds : List D} (h : RpA c.K c.cm S vs ds) : RpA c.K c.cm S vs.dropLast ds.dropLast := by
  rw [List.dropLast_eq_take, List.dropLast_eq_take, h.length]
  exact h.take _
end
end Dx
end S_DxX
section S_DxY
set_option Elab.async false
set_option linter.all false
set_option maxRecDepth 100000
set_option maxHeartbeats 2000000
namespace Dx
open PySem L2
section
variable {X : Cx} {CX : CXT} {k : Nat} {f C : Addr} {fd : FuncData} {ps : List Str} {sp : Sp} {E : St → XK} {x m : Str} {p pos apos : Pos} {e o : Expr} {es : List Expr} {ta : TE} {t : TA}
def tMethSD (C : Addr) (m : Str) (sp : Sp) (E : St → XK) (ta : TE) (t : TA) : TE := fun σ H Q => ta σ H fun x H1 => ∃ a dx fs, x = .ref a ∧ H1 a = some (.ins C dx fs) ∧ fs.lookup m = none ∧
  t σ H1 fun vs H2 => sp (x :: vs) H2 Q (E σ)
theorem pe_methSD {pl : Sem Bool} (he : PE X o ta) (c : Cls X.K C) (hm : Meth X.K C m f) (F : FnOk X.prog X.w X.K X.mg X.base CX k f fd ps sp) (hr : Room k X.A) (hb : L2.Binds X.K fd ps []) (hx : ∀ σ, PassesAt CX X σ (E σ)) (ha : PA X (e :: es) t)
    (hst : starEach (e :: es) X.env = (false, eval e X.env) :: starEach es X.env := by rfl) (hpl : (backTo pos (starEach es X.env)).any (·.1) = false := by rfl)
    (ht : eval (.Call (.Attribute o m apos) (e :: es) [] pos) X.env = (do
      let ov ← eval o X.env
      standAt apos.atName
      let (f, first) ← holding [ov] (getMethod ov m pl)
      callWith pos f first (backTo pos (starEach (e :: es) X.env)) (backToKw pos (keywordEach [] X.env))) := by rfl) :
    PE X (.Call (.Attribute o m apos) (e :: es) [] pos) (tMethSD C m sp E ta t) := by
  refine ⟨fun pins s σ H Q I h => ?_⟩
  refine PySem.W.methodCall_KW (pl := pl) (thn (he.run pins s σ H _ I h) fun u s1 ⟨x, H1, I1, rx, a, dx, fs, ex, ea, l, q⟩ => ?_) ht
  subst ex
  obtain rfl : u = Value.ref a := rx
  refine getmeth_ok I1 ea c hm l ?_
  refine PySem.W.callWith_K (first := [.ref a]) (h₀ := X.base) I.ok.mod.kin hm.kp (thn (ha.run pos pins s1 σ H1 _ I1 q) fun us s2 ⟨vs, H2, I2, r, q2⟩ => ⟨I2.kIn, ?_⟩) hst hpl
  exact run_fnSD (dvs := []) (us := .ref a :: us) (vs := .ref a :: vs) F hr hb .nil (hx σ) I2 (.cons rfl r) (by rw [List.append_nil]; exact q2)
def tMakeSD (C : Addr) (sp : Sp) (dvs : List V) (E : St → XK) (t : TA) : TE := fun σ H Q => t σ H fun vs H1 => ∀ x dx, H1 x = none → H1 dx = none → dx ≠ x →
  sp (.ref x :: (vs ++ dvs)) (upd (upd H1 dx (.own x)) x (.ins C dx [])) (fun v H2 => v = .non ∧ Q (.ref x) H2) (E σ)
variable {dvs : List V} {ds : List Value}
theorem run_makeSD {pins : List (Addr × Obj)} {σ : St} {H : Hp} {s : Shared} {Q : VK} {us : List Value} {vs : List V} (M : Mk X.K C f) (F : FnOk X.prog X.w X.K X.mg X.base CX k f fd ps sp) (hr : Room (k + 1) X.A) (hb : L2.Binds X.K fd ps ds) (hd : Vals dvs ds)
    (hx : PassesAt CX X σ (E σ)) (I : Inv X pins σ H s) (r : Vals vs us)
    (h : ∀ x dx, H x = none → H dx = none → dx ≠ x → sp (.ref x :: (vs ++ dvs)) (upd (upd H dx (.own x)) x (.ins C dx [])) (fun v H2 => v = .non ∧ Q (.ref x) H2) (E σ)) :
    wpAny (model X.prog X.w) X.A (call (.ref C) us) (EP X pins σ Q) X.xe s := by
  have hq := h (s.heap.objs.size + 1) s.heap.objs.size (I.hok.fresh (Nat.le_succ _)) (I.hok.fresh (Nat.le_refl _)) (Nat.ne_of_lt (Nat.lt_succ_self _))
  have I2 := Inv.made (C := C) I
  have r2 : Vals (V.ref (s.heap.objs.size + 1) :: (vs ++ dvs)) (Value.ref (s.heap.objs.size + 1) :: (us ++ ds)) := .cons rfl (r.append hd)
  have hl : (Value.ref (s.heap.objs.size + 1) :: us ++ ds).length = ps.length := by
    have e := r2.length
    rw [F.len _ _ _ _ hq] at e
    exact e.symm
  refine wpAny_call (make_map (f := f) I.kIn M.makes M.init (beq_iff_eq.mp M.fn) (codeAny_mono (F.run _ X.stack _ _ ⟨Value.ref (s.heap.objs.size + 1) :: us, []⟩ (Value.ref (s.heap.objs.size + 1) :: (us ++ ds)) _ _ (E σ) (hr.make C us [])
    (I2.env0.make C us []) (hb _ (Value.ref (s.heap.objs.size + 1) :: us) I2.kIn hl) r2 hq) fun r s' hq' => ?_))
  cases r with
  | error e => exact hx pins _ _ e s' I2 hq'
  | ok fl =>
    cases fl with
    | ret u =>
      obtain ⟨v, H', I3, rv, ev, q3⟩ := I2.after hq'
      subst ev
      exact ⟨rv, ⟨V.ref (s.heap.objs.size + 1), H', I3, rfl, q3⟩⟩
    | next => exact False.elim hq'
    | brk => exact False.elim hq'
    | cont => exact False.elim hq'
theorem pe_makeSD (M : Mk X.K C f) (F : FnOk X.prog X.w X.K X.mg X.base CX k f fd ps sp) (hr : Room (k + 1) X.A) (hg : Gl X x) (hm : X.mg x = some (.ref C)) (hb : L2.Binds X.K fd ps ds) (hd : Vals dvs ds) (hx : ∀ σ, PassesAt CX X σ (E σ))
    (ha : PA X (e :: es) t) (hdb : (x == ("__debug__" : Str)) = false := by decide) (he : starEach (e :: es) X.env = (false, eval e X.env) :: starEach es X.env := by rfl) (hpl : (backTo pos (starEach es X.env)).any (·.1) = false := by rfl) :
    PE X (.Call (.Name x p) (e :: es) [] pos) (tMakeSD C sp dvs E t) := by
  refine ⟨fun pins s σ H Q I h => ?_⟩
  refine wpAny_Call_Name_kw (ld_glob I hg hm ?_ hdb)
  refine PySem.W.callWith_K (h₀ := X.base) I.ok.mod.kin M.kp (thn (ha.run pos pins s σ H _ I h) fun us s1 ⟨vs, H1, I1, r, q⟩ => ⟨I1.kIn, ?_⟩) he hpl
  exact run_makeSD M F hr hb hd (hx σ) I1 r q
theorem pe_makeSD0 (M : Mk X.K C f) (F : FnOk X.prog X.w X.K X.mg X.base CX k f fd ps sp) (hr : Room (k + 1) X.A) (hg : Gl X x) (hm : X.mg x = some (.ref C)) (hb : L2.Binds X.K fd ps ds) (hd : Vals dvs ds) (hx : ∀ σ, PassesAt CX X σ (E σ))
    (hdb : (x == ("__debug__" : Str)) = false := by decide) : PE X (.Call (.Name x p) [] [] pos) (tMakeSD C sp dvs E tNil) := by
  refine ⟨fun pins s σ H Q I h => ?_⟩
  refine wpAny_Call_Name_kw (ld_glob I hg hm ?_ hdb)
  exact PySem.W.callWith_K0 I.kIn M.kp (run_makeSD (us := []) M F hr hb hd (hx σ) I .nil h)
end
section
variable {X : Cx} {c : Cf} {L G G' : List Ow} {f f1 : Rho → Res D} {e o : Expr} {es : List Expr} {pos apos p : Pos} {fs : Rho → Res (List D)}
/-- of an object of the class n, its field fl -/
def fldD (n fl : Str) : D → Res D
  | .obj c ns vs => if c = n then (match lookF ns vs fl with
    | some d => .ok d
    | none => .bad) else .bad
  | _ => .bad
theorem de_fld {n fl : Str} {C : Addr} (hcn : c.cm n = some C) (cl : Cls X.K C) (na : NoAttr X.K C fl) (he : PE X e (tR c G f)) (hb : attributeBase e fl X.env (eval e X.env) = eval e X.env := by rfl) :
    PE X (.Attribute e fl pos) (tV c G (dUn (fldD n fl) f)) := pe_imp (pe_fld he hb) fun σ H Q ⟨S0, H0, S, r, ok, p⟩ => rd_seq ok p fun d v S1 H1 w1 o1 m1 p1 => by
  cases d with
  | obj c' ns vs =>
    unfold fldD at p1
    dsimp only at p1
    split at p1
    · rename_i hc
      subst hc
      split at p1
      · rename_i d' hd
        obtain ⟨q, C', dx, fs, rfl, h1, h2, rfl, h4⟩ := RpB.obj m1 o1.ex
        rw [hcn] at h1; cases h1
        obtain ⟨v', hv, hr⟩ := look_rp h4 hd
        exact ⟨q, C, dx, fs, v', rfl, h2, cl, na, hv, p1.go o1.ex _ hr⟩
      · exact p1.elim
    · exact p1.elim
  | _ => exact p1.elim
/-- the own object in slot i gets a field -/
def putN (fl : Str) (d : D) : List Str → List D → List Str × List D
  | n :: ns, v :: vs => if n = fl then (n :: ns, d :: vs) else let z := putN fl d ns vs; (n :: z.1, v :: z.2)
  | ns, vs => (ns ++ [fl], vs ++ [d])
theorem putN_rp {K : PySem.W.Frag} {cm : CM} {S : Hp} {fl : Str} {d : D} {v : V} (hv : Rp K cm S v d) : ∀ {fs : List (Str × V)} {vs : List D}, RpA K cm S (fs.map (·.2)) vs →
    (putN fl d (fs.map (·.1)) vs).1 = (putF fl v fs).map (·.1) ∧ RpA K cm S ((putF fl v fs).map (·.2)) (putN fl d (fs.map (·.1)) vs).2
  | [], vs, h => by
    cases h
    refine ⟨rfl, ?_⟩
    show RpA K cm S [v] [d]
    exact .one hv
  | (n, u) :: fs, _, h => by
    cases h with | @cons _ _ d' ds' h1 h2 =>
    obtain ⟨z1, z2⟩ := putN_rp hv h2
    by_cases hn : n = fl
    · subst hn
      have e1 : putF n v ((n, u) :: fs) = (n, v) :: fs := by unfold putF; simp
      have e2 : putN n d (((n, u) :: fs).map (·.1)) (d' :: ds') = (n :: fs.map (·.1), d :: ds') := by
        show putN n d (n :: fs.map (·.1)) (d' :: ds') = _
        unfold putN; simp
      rw [e1, e2]
      exact ⟨rfl, .cons hv h2⟩
    · have e1 : putF fl v ((n, u) :: fs) = (n, u) :: putF fl v fs := by
        conv => lhs; unfold putF
        simp [hn, Ne.symm hn]
      have e2 : putN fl d (((n, u) :: fs).map (·.1)) (d' :: ds') = (n :: (putN fl d (fs.map (·.1)) ds').1, d' :: (putN fl d (fs.map (·.1)) ds').2) := by
        show putN fl d (n :: fs.map (·.1)) (d' :: ds') = _
        conv => lhs; unfold putN
        simp [hn]
      rw [e1, e2]
      exact ⟨by simp [z1], .cons h1 z2⟩
def fstF (i : Nat) (n fl : Str) (f : Rho → Res D) : Rho → SR := fun r => liftS r (f r) fun d => match r[i]? with
  | some (some (.obj c ns vs)) => if c = n ∧ ns.length < 1000 then .nx (r.set i (some (.obj c (putN fl d ns vs).1 (putN fl d ns vs).2))) else .bad
  | _ => .bad
theorem ds_fst (i : Nat) {n fl x : Str} {C : Addr} {pn pos' : Pos} (hg : Gok c G) (hcn : c.cm n = some C) (cl : Cls X.K C) (na : NoAttr X.K C fl) (k : isO (kd G i)) (ho : PE X (.Name x pn) (tVar i)) (he : PE X e (tV c G f))
    (hs : swapsWith e (some (.Attribute (.Name x pn) fl pos')) pos.line X.env = pure false := by rfl) : PS X (.Assign [.Attribute (.Name x pn) fl pos'] e pos) (sD c L G G (fstF i n fl f)) :=
  ps_imp (ps_fld ho he hs) fun E σ H ⟨S0, H0, S, r, ok, p⟩ => st_seq hg ok p fun d v S1 H1 w1 o1 m1 p1 => by
    split at p1
    · rename_i c' ns vs hr
      split at p1
      · rename_i hc
        obtain ⟨rfl, hl⟩ := hc
        obtain ⟨q, ho', s1, s2, s3, s4, s5⟩ := o1.ownI k hr
        cases s5 with | @obj C' dx _ fs _ _ h1 h2 h3 =>
        rw [hcn] at h1; cases h1
        subst h2
        obtain ⟨z1, z2⟩ := putN_rp (fl := fl) m1 h3
        refine ⟨.ref q, s1, q, C, dx, fs, rfl, s2, cl, na, by simpa using hl, p1 σ S1 _ ?_⟩
        exact o1.mutI k hr s1 (.obj hcn z1 z2)
      · exact p1.elim
    · exact p1.elim
variable {k : Nat} {fa : Addr} {fd : FuncData} {ps : List Str} {ms : List Bool} {rm : Bool} {F : List D → Res D}
def isObj (n m : Str) : D → Res Unit
  | .obj c ns _ => if c = n ∧ m ∉ ns then .ok () else .bad
  | _ => .bad
def dMeth (n m : Str) (F : List D → Res D) (f1 : Rho → Res D) (fs : Rho → Res (List D)) : Rho → Res D := fun r => (f1 r).bind fun x => (isObj n m x).bind fun _ => (fs r).bind fun ds => F (x :: ds)
theorem lookup_none {fs : List (Str × V)} {m : Str} (h : m ∉ fs.map (·.1)) : fs.lookup m = none := by
  induction fs with
  | nil => rfl
  | cons a fs ih =>
    obtain ⟨n, v⟩ := a
    simp only [List.map_cons, List.mem_cons, not_or] at h
    rw [List.lookup_cons]
    have : (m == n) = false := by simpa using h.1
    rw [this]
    exact ih h.2
theorem of_isObj {σ : St} {S H : Hp} {n m : Str} {d : D} {v : V} {g : Unit → Res D} {kk : D → Hp → Hp → Prop} (ex : Ex S H) (hv : RpB c.K c.cm S H v d) (p : PostG c σ S H ((isObj n m d).bind g) kk) :
    ∃ a C dx fs, v = .ref a ∧ c.cm n = some C ∧ H a = some (.ins C dx fs) ∧ fs.lookup m = none ∧ PostG c σ S H (g ()) kk := by
  cases d with
  | obj c' ns vs =>
    unfold isObj at p
    dsimp only at p
    split at p
    · rename_i hc
      obtain ⟨rfl, hm⟩ := hc
      obtain ⟨q, C', dx, fs, rfl, h1, h2, rfl, h4⟩ := RpB.obj hv ex
      exact ⟨q, C', dx, fs, rfl, h1, h2, lookup_none hm, p⟩
    · exact p.elim
  | _ => exact p.elim
theorem de_meth {n m : Str} {C : Addr} {pl : Sem Bool} (hcn : c.cm n = some C) (cl : Cls X.K C) (hm : Meth X.K C m fa) (F1 : FnOk X.prog X.w X.K X.mg X.base (L2N.CX X.prog X.w) k fa fd ps (spD c.K c.cm (true :: ms) rm F)) (tk : L2N.Takes X c.W) (hr : Room k X.A) (hb : L2.Binds X.K fd ps [])
    (he : PE X o (tR c G f1)) (ha : PA X (e :: es) (tM c G ms fs))
    (hst : starEach (e :: es) X.env = (false, eval e X.env) :: starEach es X.env := by rfl) (hpl : (backTo pos (starEach es X.env)).any (·.1) = false := by rfl)
    (ht : eval (.Call (.Attribute o m apos) (e :: es) [] pos) X.env = (do
      let ov ← eval o X.env
      standAt apos.atName
      let (f, first) ← holding [ov] (getMethod ov m pl)
      callWith pos f first (backTo pos (starEach (e :: es) X.env)) (backToKw pos (keywordEach [] X.env))) := by rfl) :
    PE X (.Call (.Attribute o m apos) (e :: es) [] pos) (rd c G (dMeth n m F f1 fs) (mR c rm)) :=
  pe_imp (pe_methSD (pl := pl) (E := fun σ cls d H => c.W cls d σ H) he cl hm F1 hr hb (fun σ => L2N.passAt tk σ) ha hst hpl ht) fun σ H Q ⟨S0, H0, S, r, ok, q⟩ => rd_seq ok q fun x v S1 H1 w1 o1 m1 p1 => by
    obtain ⟨a, C', dx, fs', rfl, z1, z2, z3, p2⟩ := of_isObj o1.ex m1 p1
    rw [hcn] at z1; cases z1
    exact ⟨a, dx, fs', rfl, z2, z3, rd_seq o1 p2 fun ds vs S2 H2 w2 o2 m2 p3 => call_rd (ds := x :: ds) (fun _ _ _ h => h) o2.ex ⟨RpB.mono m1 w2.s w2.h, m2⟩ (p3.anti (w1.h.trans w2.h))⟩
/-- what an __init__ promises: from its arguments' data to the new object's data -/
def spI (K : PySem.W.Frag) (cm : CM) (C : Addr) (ms : List Bool) (F : List D → Res D) : Sp := fun vs H Q E => ∃ x dx H1 S us ds, vs = .ref x :: us ∧ H1 x = none ∧ H1 dx = none ∧ dx ≠ x ∧ H = upd (upd H1 dx (.own x)) x (.ins C dx []) ∧ Ex S H1 ∧
  RpM ⟨K, cm, fun _ _ _ _ => False, none, true, fun _ _ => False⟩ S H1 ms us ds ∧
  PostG ⟨K, cm, fun cls d _ H => E cls d H, none, true, fun _ _ => False⟩ [] S H1 (F ds) fun a S' H' => (∃ ho, S' x = none ∧ H' x = some ho ∧ RpO K cm S' ho a) → Q .non H'
theorem make_rd {E : XK} {σ : St} {S H : Hp} {vs : List V} {ds : List D} {Q : VK} {C x dx : Addr} (hE : ∀ cls d H, c.W cls d σ H → E cls d H) (ex : Ex S H) (m : RpM c S H ms vs ds) (hx : H x = none) (hdx : H dx = none) (hne : dx ≠ x)
    (q : PostG c σ S H (F ds) fun a S' H' => ∀ b, mO c H S' H' b a → Q b H') : spI c.K c.cm C ms F (.ref x :: vs) (upd (upd H dx (.own x)) x (.ins C dx [])) (fun v H2 => v = .non ∧ Q (.ref x) H2) E := by
  refine ⟨x, dx, H, S, vs, ds, rfl, hx, hdx, hne, rfl, ex, RpM.cf (c := c) (c' := ⟨c.K, c.cm, fun _ _ _ _ => False, none, true, fun _ _ => False⟩) rfl rfl m, ?_⟩
  cases hF : F ds with
  | ok a =>
    rw [hF] at q
    intro S' H' w ⟨ho, h1, h2, h3⟩
    exact ⟨rfl, q S' H' w _ ⟨x, ho, rfl, hx, h1, h2, h3⟩⟩
  | err n ns vs => rw [hF] at q; exact fun C dd S' H' fs h1 w h2 h3 h4 => hE _ _ _ (q C dd S' H' fs h1 w h2 h3 h4)
  | bad => rw [hF] at q; exact q.elim
theorem de_make {x : Str} {C : Addr} (M : Mk X.K C fa) (F1 : FnOk X.prog X.w X.K X.mg X.base (L2N.CX X.prog X.w) k fa fd ps (spI c.K c.cm C ms F)) (tk : L2N.Takes X c.W) (hr : Room (k + 1) X.A) (hg : Gl X x) (hm : X.mg x = some (.ref C)) (hb : L2.Binds X.K fd ps [])
    (ha : PA X (e :: es) (tM c G ms fs)) (hdb : (x == ("__debug__" : Str)) = false := by decide) (he : starEach (e :: es) X.env = (false, eval e X.env) :: starEach es X.env := by rfl) (hpl : (backTo pos (starEach es X.env)).any (·.1) = false := by rfl) :
    PE X (.Call (.Name x p) (e :: es) [] pos) (tO c G (dCall F fs)) :=
  pe_imp (pe_makeSD (dvs := []) (E := fun σ cls d H => c.W cls d σ H) M F1 hr hg hm hb .nil (fun σ => L2N.passAt tk σ) ha hdb he hpl) fun σ H Q ⟨S0, H0, S, r, ok, q⟩ => rd_seq ok q fun ds vs S1 H1 w1 o1 m1 p1 => fun x dx hx hdx hne => by
    rw [List.append_nil]
    exact make_rd (fun _ _ _ h => h) o1.ex m1 hx hdx hne (p1.anti w1.h)
end
def startI (n : Nat) (cls : Str) (ds : List D) : Rho := some (.obj cls [] []) :: ds.map some ++ List.replicate (n - (ds.length + 1)) none
def GI (x : Addr) (ms : List Bool) (n : Nat) : List Ow := .i x :: ms.map (fun m => if m then .b else .v) ++ List.replicate (n - (ms.length + 1)) .v
def runI (n : Nat) (cls : Str) (Fb : Rho → SR) (ds : List D) : Res D := match Fb (startI n cls ds) with
  | .nx r => (match r[0]? with
    | some (some d) => .ok d
    | _ => .bad)
  | .er _ n ns vs => .err n ns vs
  | _ => .bad
theorem kd_GI_succ {x : Addr} {ms : List Bool} {n i : Nat} : kd (GI x ms n) (i + 1) = kd (G0 ms (n - 1)) i := by
  unfold kd GI G0
  rw [List.getD_eq_getElem?_getD, List.getD_eq_getElem?_getD]
  simp [Nat.sub_sub, Nat.add_comm]
theorem startI_succ {n i : Nat} {cls : Str} {ds : List D} : (startI n cls ds)[i + 1]? = (startR (n - 1) ds)[i]? := by
  unfold startI startR
  simp [Nat.sub_sub, Nat.add_comm]
section
variable {P : Program} {w : World} {K : PySem.W.Frag} {mg : Str → Option Value} {base : Heap} {cm : CM}
theorem env_startI {c : Cf} {N : List Str} {S H1 : Hp} {us : List V} {ds : List D} {ms : List Bool} {x dx C : Addr} {n : Str} (hcn : c.cm n = some C) (ex : Ex S H1) (m : RpM c S H1 ms us ds) (hn : ms.length + 1 ≤ N.length) (hx : H1 x = none) (hdx : H1 dx = none) (hne : dx ≠ x) (ht : ∀ P q, c.tb P q → LamX.TabS H1 P q := by intro _ _ z; exact False.elim z) :
    EnvOk c S H1 (GI x ms N.length) S (upd (upd H1 dx (.own x)) x (.ins C dx [])) (L2.start N (.ref x :: us)) (startI N.length n ds) := by
  have hl := m.len
  have hx1 : (upd H1 dx (.own x)) x = none := by rw [upd_ne (Ne.symm hne)]; exact hx
  have e1 : Ex H1 (upd (upd H1 dx (.own x)) x (.ins C dx [])) := (Ex.new hdx).trans (Ex.new hx1)
  have fw : Fwd S H1 S (upd (upd H1 dx (.own x)) x (.ins C dx [])) := ⟨Ex.refl, e1, ex.trans e1, fun a o h n => (by rw [n] at h; cases h), (Tk.new hdx).trans (Tk.new hx1)⟩
  refine ⟨fw, by unfold L2.start startI; simp [hl.1, hl.2], fun i d h => ?_, fun i j d e p hi hj ki kj si sj => ?_, ⟨[], .nil (fun i d hi => ?_) ht⟩⟩
  · cases i with
    | zero =>
      have h : some (some (D.obj n [] [])) = some (some d) := h
      cases h
      refine ⟨.ref x, by unfold L2.start; simp, ?_⟩
      show SlotOk c H1 S _ (.i x) (.ref x) _
      exact ⟨rfl, x, _, rfl, upd_same, ex.nn hx, hx, .obj hcn rfl .nil⟩
    | succ i =>
      rw [startI_succ] at h
      have hd := startR_some h
      obtain ⟨v, mm, h1, h2, h3⟩ := m.get hd
      refine ⟨v, ?_, ?_⟩
      · unfold L2.start
        have hlt : i < us.length := (List.getElem?_eq_some_iff.mp h1).1
        rw [List.getElem?_append, if_pos (by simpa using hlt)]
        simp [h1]
      · rw [kd_GI_succ, kd_G0_at h2]
        cases mm with
        | true => exact h3
        | false => exact h3
  · cases i with
    | succ i => rw [kd_GI_succ] at ki; exact absurd ki kd_G0
    | zero => cases j with
      | zero => rfl
      | succ j => rw [kd_GI_succ] at kj; exact absurd kj kd_G0
  · cases i with
    | zero => exact ⟨fun _ h => (by cases h), fun h => (by cases h)⟩
    | succ i => rw [kd_GI_succ]; exact kd_G0_sw
/-- THE RULE for an __init__ -/
theorem dokI {x qual : Str} {st : Stmt} {f C : Addr} {fd : FuncData} {N ps : List Str} {k : Nat} {ms : List Bool} {n : Str} {Fb : Rho → SR} (F : Fun K x qual st f fd) (S : FnScope N ps (defScope st)) (hcn : cm n = some C) (hm : ms.length + 1 = ps.length) (hn : ps.length ≤ N.length)
    {G' : Addr → List Ow} (hG : ∀ a, kd (G' a) 0 = .i a)
    (hb : ∀ (cdv : Value) (A : Around) (outer : List Env) (s : Shared) (H : Hp) (E : XK) (a : Addr), Room k (A.deeper (PyProof.Rows.envOfC qual (defScope st) s.heap.objs.size f cdv)) →
      PSs (cxOf (L2N.CX P w) P w K mg base N qual (defScope st) f cdv A outer s H E) (defBody st) (sD (cfE K cm false E) [] (GI a ms N.length) (G' a) Fb)) :
    FnOk P w K mg base (L2N.CX P w) (k + 1) f fd ps (spI K cm C ms (runI N.length n Fb)) := by
  refine F.okN S (fun vs H Q E h => ?_) (fun cdv A outer s H vs Q E hr h => ?_)
  · obtain ⟨x, dx, H1, S, us, ds, rfl, _, _, _, _, _, m, _⟩ := h
    rw [List.length_cons, m.len.1, hm]
  · obtain ⟨x, dx, H1, S, us, ds, rfl, hx, hdx, hne, rfl, ex, m, q⟩ := h
    refine ⟨_, hb cdv A outer s _ E x hr, S, H1, S, startI N.length n ds, env_startI (c := cfE K cm false E) hcn ex (RpM.cf (c := ⟨K, cm, fun _ _ _ _ => False, none, true, fun _ _ => False⟩) (c' := cfE K cm false E) rfl rfl m) (by omega) hx hdx hne, ?_⟩
    unfold runI at q
    cases hF : Fb (startI N.length n ds) with
    | rt d => rw [hF] at q; exact q.elim
    | nx r =>
      rw [hF] at q
      dsimp only at q
      intro σ' S' H' ok
      split at q
      · rename_i d hd
        obtain ⟨v, h1, h2⟩ := ok.slot 0 d hd
        rw [hG x] at h2
        obtain ⟨rfl, p, ho, e1, e2, e3, e4, e5⟩ := h2
        cases e1
        exact q S' H' ok.fwd ⟨ho, e3, e2, e5⟩
      · exact q.elim
    | er r n ns vs =>
      rw [hF] at q
      exact fun C dd σ' S' H' fs h1 fw _ h2 h3 h4 => q C dd S' H' fs h1 fw h2 h3 h4
    | bk r => rw [hF] at q; exact q.elim
    | ct r => rw [hF] at q; exact q.elim
    | bad => rw [hF] at q; exact q.elim
end
end Dx
end S_DxY
section S_DxZ
set_option Elab.async false
set_option linter.all false
set_option maxRecDepth 100000
set_option maxHeartbeats 2000000
namespace Dx
open PySem L2
section
variable {X : Cx} {c : Cf} {L G G' : List Ow} {f f1 f2 : Rho → Res D} {e e2 : Expr} {pos apos p : Pos} {fs : Rho → Res (List D)}
def enumS (d : D) : Res (List D) := (itemsS d).bind fun ds => .ok (numd 0 ds)
def pairs : List D → List D → List D
  | a :: as, b :: bs => .tup [a, b] :: pairs as bs
  | _, _ => []
def zipS : List D → Res (List D)
  | [.str x, .str y] => .ok (pairs (signs x) (signs y))
  | _ => .bad
def repS (x : Str) (n : Int) : Str := ⟨(List.replicate n.toNat x.cps.toList).flatten.toArray⟩
def rMulS : R2 := fun x y H Q => ∃ i j, x = .str i ∧ y = .int j ∧ j < 2 ^ 60 ∧ -(2 ^ 60) < j ∧ i.length * j.toNat ≤ sizeLine ∧ Q (.str (repS i j)) H
theorem repS_fold (x : Str) (n : Nat) (a : Array Nat) : (List.replicate n x.cps).foldl (· ++ ·) a = a ++ (List.replicate n x.cps.toList).flatten.toArray := by
  induction n generalizing a with
  | zero => simp
  | succ n ih => rw [List.replicate_succ, List.foldl_cons, ih, List.replicate_succ, List.flatten_cons]; apply Array.toList_inj.mp; simp
theorem op_mulS : OpR X (binaryOp .Mult) rMulS := by
  intro pins s σ H x y v u Q I rx ry h
  obtain ⟨i, j, rfl, rfl, h1, h2, hz, q⟩ := h
  obtain ⟨t, rfl⟩ := rx
  obtain ⟨t', rfl⟩ := ry
  have hz2 : (sizeLine : Nat) < 2 ^ 40 := by decide
  refine P.mul_str (by have a1 : ¬ j < -(2 ^ 63 : Int) := by omega
                       have a2 : ¬ j ≥ 2 ^ 63 := by omega
                       rw [decide_eq_false a1, decide_eq_false a2]; rfl) (fun hn hc => ?_) (fun hn hc => ?_) ?_
  · intro hgt
    have hj : 0 < j := by omega
    have h3 : (i.length : Int) * j ≤ sizeLine := by
      have : ((i.length * j.toNat : Nat) : Int) ≤ (sizeLine : Int) := by exact_mod_cast hz
      rw [Int.natCast_mul, Int.toNat_of_nonneg (by omega)] at this
      exact this
    have h4 : (2 ^ 63 - 1) / j + 1 ≤ (i.length : Int) := hgt
    have h5 : ((2 ^ 63 - 1) / j + 1) * j ≤ (i.length : Int) * j := Int.mul_le_mul_of_nonneg_right h4 (by omega)
    have h6 : (2 ^ 63 - 1) < ((2 ^ 63 - 1) / j + 1) * j := Int.lt_ediv_add_one_mul_self _ hj
    have h7 : ((sizeLine : Nat) : Int) < 2 ^ 40 := by exact_mod_cast hz2
    omega
  · exact decide_eq_false (Nat.not_lt.mpr hz)
  · have e1 : repS i j = ⟨(List.replicate j.toNat i.cps).foldl (· ++ ·) #[]⟩ := by
      unfold repS
      rw [repS_fold]; simp
    by_cases hn : j < 1
    · rw [if_pos hn]
      have : repS i j = Str.empty := by
        unfold repS
        rw [show j.toNat = 0 by omega]
        rfl
      rw [this] at q
      exact ⟨by decide, ⟨.str Str.empty, H, I.tok _, ⟨_, rfl⟩, q⟩⟩
    · rw [if_neg hn]
      by_cases hc : (j == 1 || i.length == 0) = true
      · rw [if_pos hc]
        have : repS i j = i := by
          rw [Bool.or_eq_true] at hc
          rcases hc with hc | hc
          · have : j = 1 := by simpa using hc
            subst this
            unfold repS
            apply Str.ext'
            simp
          · have h0 : i.cps.size = 0 := by have : i.length = 0 := by simpa using hc
                                           exact this
            have h0' : i.cps = #[] := Array.eq_empty_of_size_eq_zero h0
            unfold repS
            apply Str.ext'
            rw [h0']
            simp
        rw [this] at q
        exact ⟨.str i, H, I, ⟨_, rfl⟩, q⟩
      · rw [if_neg hc, ← e1]
        refine ⟨?_, ⟨.str (repS i j), H, I.tok _, ⟨_, rfl⟩, q⟩⟩
        have : (repS i j).length = i.length * j.toNat := by
          show (List.replicate j.toNat i.cps.toList).flatten.toArray.size = _
          rw [List.size_toArray, List.length_flatten, List.map_replicate, List.sum_replicate_nat, Array.length_toList, Nat.mul_comm]; rfl
        rw [this]; exact hz
noncomputable def mulX : D → D → Res D
  | .str a, .int k => guard (k < 2 ^ 60 ∧ -(2 ^ 60) < k ∧ a.length * k.toNat ≤ sizeLine) (.ok (.str (repS a k)))
  | x, y => mulD x y
def rMulY : R2 := fun x y H Q => rMulX x y H Q ∨ rMulS x y H Q
theorem or_mulX : OpR X (binaryOp .Mult) rMulY := or_mul.or op_mulS
theorem os_mulX : OpS c (mV c) rMulY mulX := by
  intro σ S H x y d e Q ex hx hy p
  unfold mulX at p
  split at p
  · cases hx.str; cases hy.int
    obtain ⟨⟨h1, h2, h3⟩, p⟩ := p.gd
    exact .inr ⟨_, _, rfl, rfl, h1, h2, h3, p.here ex (.str _)⟩
  · exact .inl (os_mul σ S H x y _ _ Q ex hx hy p)
variable {cpos : Pos}
end
end Dx
end S_DxZ
section S_DxO
set_option Elab.async false
set_option linter.all false
set_option maxRecDepth 100000
set_option maxHeartbeats 2000000
namespace Dx
open PySem L2 ItX
open PyProof.Rows hiding St
section
variable {X : Cx} {k : Nat} {fa C : Addr} {fd : FuncData} {ps : List Str} {sp : Sp} {pins : List (Addr × Obj)} {σ : St} {H : Hp} {s : Shared} {Q : VK} {us : List Value} {vs : List V}
abbrev noX : XK := fun _ _ _ => False
/-- a def runs below, and raises nothing -/
theorem run_ce {A : Around} {R : Value → Shared → Prop} {E' : Value → Shared → Prop} (F1 : FnOk X.prog X.w X.K X.mg X.base (L2N.CX X.prog X.w) k fa fd ps sp) (hr : Room k A) (e0 : Env0 X.prog X.w X.K X.mg X.base A X.stack s H) (hb : L2.Binds X.K fd ps []) (hK : X.K.In s.heap) (r : Vals vs us) (h : sp vs H Q noX)
    (fin : ∀ u s', CE X.stack X.prog X.w H s Q u s' → R u s') : wpAny (model X.prog X.w) A (call (.ref fa) us) R E' s := by
  have hl : (us ++ []).length = ps.length := by rw [List.append_nil, ← r.length]; exact F1.len _ _ _ _ h
  have hb2 := hb s us hK hl
  rw [List.append_nil] at hb2
  refine wpAny_call (codeAny_mono (F1.run A X.stack s H ⟨us, []⟩ us vs Q noX hr e0 hb2 r h) fun r s' hq => ?_)
  cases r with
  | error e => exact (cx_never hq).elim
  | ok fl =>
    cases fl with
    | ret u => exact fin u s' hq
    | next => exact False.elim hq
    | brk => exact False.elim hq
    | cont => exact False.elim hq
theorem run_calm {A : Around} {E' : Value → Shared → Prop} (F1 : FnOk X.prog X.w X.K X.mg X.base (L2N.CX X.prog X.w) k fa fd ps sp) (hr : Room k A) (e0 : Env0 X.prog X.w X.K X.mg X.base A X.stack s H) (hb : L2.Binds X.K fd ps []) (I : Inv X pins σ H s) (r : Vals vs us) (h : sp vs H Q noX) :
    wpAny (model X.prog X.w) A (call (.ref fa) us) (EP X pins σ Q) E' s := run_ce F1 hr e0 hb I.kIn r h fun u s' hq => I.after hq
theorem ins_at {a dx : Addr} {fs : List (Str × V)} (I : Inv X pins σ H s) (h : H a = some (.ins C dx fs)) : ∃ ox od, PySem.W.InstAt s.heap a ox C od ∧ ox.data = .plain := by
  obtain ⟨mA, O, _⟩ := ins_get I.hok h
  obtain ⟨od, J, _⟩ := O.look
  exact ⟨_, _, J, rfl⟩
def rLenO (C : Addr) (sp : Sp) : List V → Hp → VK → Prop := fun xs H Q => ∃ a dx fs, xs = [V.ref a] ∧ H a = some (.ins C dx fs) ∧ sp [.ref a] H (fun z H' => ∃ i : Int, z = .int i ∧ 0 ≤ i ∧ i < 2 ^ 63 ∧ Q z H') noX
theorem call_lenO (hm : L2.Meth X.K C "__len__" fa) (F1 : FnOk X.prog X.w X.K X.mg X.base (L2N.CX X.prog X.w) k fa fd ps sp) (hr : Room (k + 1) X.A) (hb : L2.Binds X.K fd ps []) : CallR X (.builtin "len") (rLenO C sp) := by
  intro pins s σ H xs us Q I r h
  obtain ⟨a, dx, fs, rfl, ha, q⟩ := h
  obtain ⟨u, rfl, ru⟩ := r.one
  cases ru
  obtain ⟨ox, od, J, _⟩ := ins_at I ha
  obtain ⟨m, hF⟩ := I.fr
  refine PySem.W.len_K hF I.ok.mod.kin J hm.at_ hm.fn (wpAny_mono (run_calm (us := [.ref a]) (vs := [.ref a]) F1 hr.in1 I.env0.in1 hb I (.cons rfl .nil) q) (fun w s' z => ?_) fun _ _ x => x)
  obtain ⟨z', H', I', rz, i, rfl, h0, h1, qz⟩ := z
  obtain ⟨t, rfl⟩ := rz
  exact ⟨⟨h0, h1⟩, .int i, H', I'.tok _, ⟨_, rfl⟩, qz⟩
end
section
variable {X : Cx} {c : Cf} {L G G' : List Ow} {f f1 : Rho → Res D} {e o : Expr} {es : List Expr} {pos apos p : Pos} {fs : Rho → Res (List D)} {n : Str} {C : Addr} {F : List D → Res D} {ms : List Bool} {rm : Bool} {k : Nat} {fa : Addr} {fd : FuncData} {ps : List Str}
theorem calm_sp {S H : Hp} {vs : List V} {ds : List D} {Q : VK} {a : D} (ex : Ex S H) (m : RpM c S H ms vs ds) (hF : F ds = .ok a) (q : ∀ S' H' b, Fwd S H S' H' → mR c rm H S' H' b a → Q b H') : spD c.K c.cm ms rm F vs H Q noX := by
  refine call_rd (c := ⟨c.K, c.cm, fun _ _ _ _ => False, none, rm, fun _ _ => False⟩) (σ := []) (fun _ _ _ h => h) ex (RpM.cf (c := c) (c' := ⟨c.K, c.cm, fun _ _ _ _ => False, none, rm, fun _ _ => False⟩) rfl rfl m) ?_
  rw [hF]
  exact fun S' H' w b hb => q S' H' b w (by cases rm <;> exact hb)
/-- an object of the class n -/
def isCls (n : Str) : D → Bool
  | .obj c _ _ => decide (c = n)
  | _ => false
theorem of_isCls {S H : Hp} {v : V} {d : D} (ex : Ex S H) (hcn : c.cm n = some C) (h : isCls n d = true) (m : RpB c.K c.cm S H v d) : ∃ a dx fs, v = .ref a ∧ H a = some (.ins C dx fs) := by
  cases d with
  | obj c' ns vs =>
    have hc : c' = n := of_decide_eq_true h
    subst hc
    obtain ⟨q, C', dx, fs, rfl, h1, h2, _, _⟩ := RpB.obj m ex
    rw [hcn] at h1; cases h1
    exact ⟨q, dx, fs, rfl, h2⟩
  | _ => cases h
noncomputable def lenO (n : Str) (F : List D → Res D) (d : D) : Res D := if isCls n d = true then (match F [d] with
  | .ok (.int i) => guard (0 ≤ i ∧ i < 2 ^ 63) (.ok (.int i))
  | _ => .bad) else .bad
theorem cs_lenO (hcn : c.cm n = some C) : CallS c (mV c) (rLenO C (spD c.K c.cm [true] false F)) [true] (g1 (lenO n F)) := by
  intro σ S H vs ds Q ex m p
  obtain ⟨v, d, rfl, rfl, h⟩ := m.one
  have p : PostG c σ S H (lenO n F d) _ := p
  unfold lenO at p
  split at p
  · rename_i hc
    obtain ⟨a, dx, gs, rfl, h2⟩ := of_isCls ex hcn hc h
    split at p
    · rename_i i hF
      obtain ⟨⟨h0, h1⟩, p⟩ := p.gd
      exact ⟨a, dx, gs, rfl, h2, calm_sp (ds := [d]) ex ⟨h, trivial⟩ hF fun S' H' b w hb => by
        have hb : Rp c.K c.cm S' b (.int i) := hb
        cases hb
        exact ⟨i, rfl, h0, h1, p S' H' w _ (.int i)⟩⟩
    · exact p.elim
  · exact p.elim
def dStar (f : Rho → Res D) (fs : Rho → Res (List D)) : Rho → Res (List D) := fun r => (f r).bind fun d => (items d).bind fun xs => (fs r).bind fun ys => .ok (xs ++ ys)
def zipL : List D → Res (List D)
  | [.lst x, .lst y] => .ok (pairs x y)
  | _ => .bad
end
/-- what such an __iter__ gives: a new iterator of the list -/
def ItOk (P : Program) (w : World) (K : PySem.W.Frag) (mg : Str → Option Value) (base : Heap) (k : Nat) (f : Addr) (C : Addr) (fl : Str) : Prop :=
  ∀ (A : Around) (outer : List Env) (s : Shared) (H : Hp) (a dx l : Addr) (fs : List (Str × V)) (xs : List V) (Q : VK), Room k A → Env0 P w K mg base A outer s H → H a = some (.ins C dx fs) → fs.lookup fl = some (.ref l) → SqL K H l xs →
    (∀ it, H it = none → s.heap.objs.size ≤ it → Q (.ref it) (upd H it (ItO l it 0))) → codeAny (model P w) A (.call (.ref f) ⟨[.ref a], []⟩) (CR (L2N.CX P w) outer P w H s Q noX) s
theorem iter_ok {P : Program} {w : World} {K : PySem.W.Frag} {mg : Str → Option Value} {base : Heap} {qual : Str} {st : Stmt} {fI C : Addr} {fd : FuncData} {N ps : List Str} {fl : Str} (F : Fun K "__iter__" qual st fI fd) (S : FnScope N ps (defScope st)) (hl : ps.length = 1) (hN : N.length = 1) (cl : Cls K C) (na : NoAttr K C fl) (bi : L2.Binds K fd ps [])
    (hb : ∀ (cdv : Value) (A : Around) (outer : List Env) (s : Shared) (H : Hp) (E : XK), PSs (cxOf (L2N.CX P w) P w K mg base N qual (defScope st) fI cdv A outer s H E) (defBody st) (tRet (tCB (ItX.rIterN K s.heap.objs.size) (tCons (tFld K (tVar 0) fl) tNil)))) :
    ItOk P w K mg base 1 fI C fl := by
  intro A outer s H a dx l fs xs Q hr e0 ha hf hq q
  obtain ⟨oc, od, kV, doc, pm, an, cd, ct, osl, rfl, lk, hcd⟩ := F.ex
  have inK : K.In s.heap := e0.mod.kin.keeps fun z o e => (e0.bs z o e).1
  have nl : s.heap.NoLimit := e0.mod.nolimit.keeps fun z o e => (e0.bs z o e).1
  have bnd := bi s [Value.ref a] inK (by rw [List.append_nil]; exact hl.symm)
  rw [List.append_nil] at bnd
  have kinds : ∀ y ∈ ps.zip [Value.ref a], (defScope st).names.lookup y.1 = some .local ∨ ((defScope st).names.lookup y.1 = some .cell ∧ ((cellsFrom (s.heap.objs.size + 1) (defScope st).names []).lookup y.1).isSome = true) := by
    rintro ⟨n, v⟩ hy
    rcases S.par n (List.of_mem_zip hy).1 with z | z
    · exact .inl z
    · exact .inr ⟨z, PySem.W.cellsFrom_some _ _ _ (.inl z)⟩
  refine codeAny_call_function hr.depth (inK _ _ lk) rfl S.co S.gen rfl (PySem.W.codeRec_of inK hcd) (bnd _ _ _ _ (wpAny_newFunctionEnv_cells S.kind kinds fun env he s1 ic => ?_))
  subst he
  refine ⟨nl.keeps ic.toInCall.keep, codeAny_func ?_⟩
  have J0 : Inv (cxOf (L2N.CX P w) P w K mg base N qual (defScope st) fI cd A outer s H noX) [] (L2.start N [V.ref a]) H s1 := inv_start S hr.hd e0 hl.symm (.cons rfl .nil) ic
  have es : L2.start N [V.ref a] = [some (.ref a)] := by unfold L2.start; rw [hN]; rfl
  have goal : tRet (tCB (ItX.rIterN K s.heap.objs.size) (tCons (tFld K (tVar 0) fl) tNil)) { nx := fun _ H' => Q .non H', rt := Q } (L2.start N [V.ref a]) H := by
    rw [es]
    exact ⟨.ref a, rfl, a, C, dx, fs, .ref l, rfl, ha, cl, na, hf, l, xs, rfl, hq, q⟩
  refine wpAny_mono ((hb cd A outer s H noX).run [] s1 _ H _ J0 goal) (fun fl s' z => ?_) fun e s' z => z
  cases fl with
  | ret u =>
    obtain ⟨v, σ', H', J, rv, z⟩ := z
    exact ⟨v, H', J.os, J.bare, J.base, J.hok, rv, z⟩
  | next =>
    obtain ⟨σ', H', J, z⟩ := z
    exact ⟨V.non, H', J.os, J.bare, J.base, J.hok, rfl, z⟩
  | brk => obtain ⟨_, _, _, z⟩ := z; exact z.elim
  | cont => obtain ⟨_, _, _, z⟩ := z; exact z.elim
section
variable {X : Cx} {k : Nat} {fa C : Addr} {pins : List (Addr × Obj)} {σ : St} {H : Hp} {s : Shared} {fl : Str}
/-- the call of __iter__: a new iterator of the list -/
theorem run_it {A : Around} {E' : Value → Shared → Prop} {a dx l : Addr} {fs : List (Str × V)} {xs : List V} (F1 : ItOk X.prog X.w X.K X.mg X.base k fa C fl) (hr : Room k A) (e0 : Env0 X.prog X.w X.K X.mg X.base A X.stack s H) (I : Inv X pins σ H s)
    (ha : H a = some (.ins C dx fs)) (hf : fs.lookup fl = some (.ref l)) (hq : SqL X.K H l xs) :
    wpAny (model X.prog X.w) A (call (.ref fa) [.ref a]) (fun u s' => ∃ it, u = .ref it ∧ s.heap.objs.size ≤ it ∧ H it = none ∧ Inv X pins σ (upd H it (ItO l it 0)) s') E' s := by
  refine wpAny_call (codeAny_mono (F1 A X.stack s H a dx l fs xs (fun v H' => ∃ it, v = .ref it ∧ H it = none ∧ s.heap.objs.size ≤ it ∧ H' = upd H it (ItO l it 0)) hr e0 ha hf hq fun it hit hs => ⟨it, rfl, hit, hs, rfl⟩) fun r s' hr => ?_)
  cases r with
  | error e => exact (cx_never hr).elim
  | ok fl =>
    cases fl with
    | ret u =>
      obtain ⟨v2, H2, I2, r2, it, rfl, h2, h3, rfl⟩ := I.after hr
      cases r2
      exact ⟨it, rfl, h3, h2, I2⟩
    | next => exact False.elim hr
    | brk => exact False.elim hr
    | cont => exact False.elim hr
theorem it_next {A : Around} {Q : Value → Shared → Prop} {E : Value → Shared → Prop} {l it : Addr} (I : Inv X pins σ H s) (h : H it = some (ItO l it 0)) (q : Q (.ref it) s) : PySem.W.OwitIt (model X.prog X.w) A Q E (.ref it) s := by
  have eo := itO_get I h
  unfold PySem.W.OwitIt
  exact wpAny_specialOf (T := "list_iterator") ⟨_, eo, rfl⟩ slot_listiter_next.lookup q
end
end Dx
end S_DxO
section S_DxP
set_option Elab.async false
set_option linter.all false
set_option maxRecDepth 100000
set_option maxHeartbeats 2000000
namespace Dx
open PySem L2 ItX
open PyProof.Rows hiding St
/-- a length, also of a dict with tuple keys -/
def LenX (K : PySem.W.Frag) (v : V) (H : Hp) (n : Nat) : Prop := LenV K v H n ∨ ∃ p kvs, v = .ref p ∧ Rd H p (.dT kvs) ∧ n = kvs.length
def rLenX (K : PySem.W.Frag) : List V → Hp → VK → Prop := fun xs H Q => ∃ x n, xs = [x] ∧ LenX K x H n ∧ Q (.int (n : Int)) H
theorem call_lenX {X : Cx} : CallR X (.builtin "len") (rLenX X.K) := by
  intro pins s σ H xs us Q I r h
  obtain ⟨x, n, rfl, h | ⟨p, kvs, rfl, hq, rfl⟩, q⟩ := h
  · exact call_len pins s σ H [x] us Q I r ⟨x, n, rfl, h, q⟩
  · obtain ⟨u, rfl, ru⟩ := r.one
    cases ru
    obtain ⟨z, hd, ys, rel, dd⟩ := dt_rd I.hok hq
    have hl : kvs.length = ys.length := Paired.length rel
    refine call_len_dictH hd dd (by rw [← hl]; rw [sizeLine_eq] at z; omega) ?_
    rw [← hl]
    exact ⟨.int ((kvs.length : Nat) : Int), H, I.tok _, ⟨_, rfl⟩, q⟩
/-- a length that leaves all as it is: return len(self.f) -/
def spLn (K : PySem.W.Frag) (C : Addr) (fl : Str) : Sp := fun vs H Q _ => ∃ a dx fs v n, vs = [.ref a] ∧ H a = some (.ins C dx fs) ∧ fs.lookup fl = some v ∧ LenX K v H n ∧ Q (.int (n : Int)) H
theorem len_ok {P : Program} {w : World} {K : PySem.W.Frag} {mg : Str → Option Value} {base : Heap} {qual : Str} {st : Stmt} {fI C : Addr} {fd : FuncData} {N ps : List Str} {fl : Str} (F : Fun K "__len__" qual st fI fd) (S : FnScope N ps (defScope st)) (hl : ps.length = 1) (hN : N.length = 1) (cl : Cls K C) (na : NoAttr K C fl)
    (hb : ∀ (cdv : Value) (A : Around) (outer : List Env) (s : Shared) (H : Hp) (E : XK), PSs (cxOf (L2N.CX P w) P w K mg base N qual (defScope st) fI cdv A outer s H E) (defBody st) (tRet (tCB (rLenX K) (tCons (tFld K (tVar 0) fl) tNil)))) :
    FnOk P w K mg base (L2N.CX P w) 1 fI fd ps (spLn K C fl) := by
  refine F.okN (k := 0) S (fun vs H Q E h => ?_) (fun cdv A outer s H vs Q E hr h => ?_)
  · obtain ⟨a, dx, fs, v, n, rfl, _⟩ := h; exact hl.symm
  · obtain ⟨a, dx, fs, v, n, rfl, ha, hf, hq, q⟩ := h
    refine ⟨_, hb cdv A outer s H E, ?_⟩
    have e : L2.start N [.ref a] = [some (.ref a)] := by unfold L2.start; rw [hN]; rfl
    rw [e]
    exact ⟨.ref a, rfl, a, C, dx, fs, v, rfl, ha, cl, na, hf, v, n, rfl, hq, q⟩
section
variable {X : Cx} {k : Nat} {fi fn C : Addr} {fd : FuncData} {ps : List Str} {pins : List (Addr × Obj)} {σ : St} {H : Hp} {s : Shared} {fl gl : Str} {A1 : Around}
theorem lenV_put {K : PySem.W.Frag} {v : V} {n : Nat} {q : Addr} {u : HO} (h : LenV K v H n) (hq : H q = none) : LenV K v (upd H q u) n := by
  cases v with
  | ref p =>
    rcases h with ⟨xs, h1, h2⟩ | ⟨xs, h1, h2⟩
    · exact .inl ⟨xs, (Ex.new hq).l h1, h2⟩
    · exact .inr ⟨xs, (Ex.new hq).t h1, h2⟩
  | str y => exact h
  | byt y => exact h
  | _ => exact h.elim
theorem lenX_put {K : PySem.W.Frag} {v : V} {n : Nat} {q : Addr} {u : HO} (h : LenX K v H n) (hq : H q = none) : LenX K v (upd H q u) n := by
  rcases h with h | ⟨p, kvs, rfl, h, rfl⟩
  · exact .inl (lenV_put h hq)
  · refine .inr ⟨p, kvs, rfl, ?_, rfl⟩
    rcases h with h | ⟨o, h⟩
    · exact .inl ((Ex.new hq) _ _ h)
    · exact .inr ⟨o, (Ex.new hq) _ _ h⟩
/-- the walk of a list's iterator that fills the list at q -/
theorem ext_loop {Rs : Result → Shared → Prop} {q it l : Addr} {xs : List V} (hh : A1.in1.handled = none) (hq : H q = none) (hs : SqL X.K H l xs) (hz : xs.length ≤ sizeLine) (hdone : ∀ s, Inv X pins σ (upd H q (.lst xs)) s → Rs (.ok (.ret .none)) s) :
    ∀ (m i : Nat) (s : Shared), i + m = xs.length → Inv X pins σ (upd H q (.lst (xs.take i))) s → FpOk X pins (upd H q (.lst (xs.take i))) it → s.heap.IsListIter it l i →
      codeAny (model X.prog X.w) A1 (.builtin "list.extend.loop" ⟨[.ref q, .ref it, .none], []⟩) Rs s := by
  intro m
  induction m with
  | zero =>
    intro i s hi I hf st
    refine codeAny_builtin PySem.F.entry_extend_loop ?_
    rw [Around.under_plainId PySem.F.plain_extend_loop _]
    show wpAny _ A1.in1 (pyNext (.ref it) >>= _) _ _ s
    obtain ⟨its, rv, p, _⟩ := I.list ((Ex.new hq).l hs)
    have hl := rv.length
    obtain ⟨f0, f1, f2, f3, f4, f5⟩ := hf
    refine wpAny_bind (wpAny_pyNext_list_end hh st p.isList (by simp; omega) fun h' eb => wpAny_pure (hdone _ ?_))
    have e : xs.take i = xs := List.take_of_length_le (by omega)
    rw [e] at I f0
    exact I.turned (t' := s.toks) (fun b o hb e => eb b o hb e) f0 f1 f3 f4 f5
  | succ m ih =>
    intro i s hi I hf st
    refine codeAny_builtin PySem.F.entry_extend_loop ?_
    rw [Around.under_plainId PySem.F.plain_extend_loop _]
    show wpAny _ A1.in1 (pyNext (.ref it) >>= _) _ _ s
    obtain ⟨its, rv, p, _⟩ := I.list ((Ex.new hq).l hs)
    have hil : i < xs.length := by omega
    obtain ⟨u, hu, ru⟩ := rv.get (List.getElem?_eq_getElem hil)
    have hf' := hf
    obtain ⟨f0, f1, f2, f3, f4, f5⟩ := hf
    refine wpAny_bind (wpAny_pyNext_list_item st p.isList (x := u) (by simpa using hu) fun h' st' sb => ?_)
    have I1 : Inv X pins σ (upd H q (.lst (xs.take i))) { s with heap := h' } := I.turned (t' := s.toks) (fun b o hb e => (sb.2 b hb).trans e) f0 f1 f3 f4 f5
    show wpAny _ A1.in1 (updateSeq q (·.push u) >>= _) _ _ _
    obtain ⟨z, its2, n2, r2, hl2, e2⟩ := I1.lstM upd_same
    have hlt : (xs.take i).length = i := by rw [List.length_take]; omega
    refine wpAny_bind (wpAny_updateSeq e2 rfl (wpAny_pure ⟨plainId_quiet PySem.F.plain_extend_loop _, ?_⟩) (by rw [List.size_toArray]; omega) (by show (its2.toArray.push u).size ≤ sizeLine + 1; rw [Array.size_push, List.size_toArray]; omega))
    have I2 := I1.lset (f := (·.push u)) (its' := its2 ++ [u]) (ys := xs.take i ++ [xs[i]]) (t' := s.toks) upd_same e2 (by simp) (r2.append (.cons ru .nil)) (by rw [List.length_append, List.length_singleton]; omega)
    rw [upd_upd] at I2
    have et : xs.take i ++ [xs[i]] = xs.take (i + 1) := by rw [List.take_add_one, List.getElem?_eq_getElem hil]; rfl
    rw [et] at I2
    have hne : it ≠ q := fun z => by rw [z, upd_same] at f0; cases f0
    refine ih (i + 1) _ (by omega) I2 ⟨by rw [upd_ne hne] at f0 ⊢; exact f0, f1, f2, f3, f4, f5⟩ ?_
    obtain ⟨o, eo, co, do_⟩ := st'
    exact ⟨o, by rw [PySem.Heap.get?_update_ne _ _ _ _ hne]; exact eo, co, do_⟩
/-- what list(o) asks of the length -/
theorem len_hint {A : Around} {E : Value → Shared → Prop} {Q : Bool → Shared → Prop} {a dx : Addr} {fs : List (Str × V)} {v : V} {n : Nat} (hm : L2.Meth X.K C "__len__" fn) (F1 : FnOk X.prog X.w X.K X.mg X.base (L2N.CX X.prog X.w) k fn fd ps (spLn X.K C gl)) (hb : L2.Binds X.K fd ps []) (hr : Room (k + 1) A) (e0 : Env0 X.prog X.w X.K X.mg X.base A X.stack s H)
    (I : Inv X pins σ H s) (ha : H a = some (.ins C dx fs)) (hf : fs.lookup gl = some v) (hv : LenX X.K v H n) (hn : n ≤ sizeLine) (q : ∀ b s', Inv X pins σ H s' → Q b s') :
    wpAny (model X.prog X.w) A (Builtin.List.listLengthHint (.ref a)) Q E s := by
  obtain ⟨ox, od, J, _⟩ := ins_at I ha
  obtain ⟨m, hF⟩ := I.fr
  have h63 : (n : Int) < 2 ^ 63 := by have := sizeLine_eq; omega
  unfold Builtin.List.listLengthHint
  refine wpAny_bind (wpAny_bind (J.type.here ((PySem.W.looks_findIn I.kIn hm.at_).here ?_)))
  refine PySem.W.KFB.if_not rfl ?_
  refine PySem.W.KFB.if_so rfl ?_
  refine wpAny_bind (wpAny_rule ?_)
  refine wpAny_bind (wpAny_attempt (PySem.W.len_K hF I.ok.mod.kin J hm.at_ hm.fn (wpAny_mono (run_calm (us := [.ref a]) (vs := [.ref a]) (Q := fun z H' => z = .int (n : Int) ∧ H' = H) (E' := fun _ _ => False) F1 hr.in1 e0.in1 hb I (.cons rfl .nil) ⟨a, dx, fs, v, n, rfl, ha, hf, hv, rfl, rfl⟩) (fun w s' z => ?_) fun _ _ z => z.elim)))
  obtain ⟨z', H', I', rz, rfl, rfl⟩ := z
  obtain ⟨t, rfl⟩ := rz
  refine ⟨⟨by omega, h63⟩, ?_⟩
  refine wpAny_bind (wpAny_pure ?_)
  refine PySem.W.KFB.if_not (by rw [Int.toNat_natCast]; exact notLongL hn) ?_
  exact wpAny_pure (q _ _ (I'.tok _))
/-- list(o) -/
def rListO (K : PySem.W.Frag) (C : Addr) (fl gl : Str) : List V → Hp → VK → Prop := fun xs H Q => ∃ a dx fs l zs v n, xs = [.ref a] ∧ H a = some (.ins C dx fs) ∧ fs.lookup fl = some (.ref l) ∧ SqL K H l zs ∧ zs.length ≤ sizeLine ∧ fs.lookup gl = some v ∧ LenX K v H n ∧ n ≤ sizeLine ∧ ∀ q, H q = none → Q (.ref q) (upd H q (.lst zs))
theorem call_listO (hi : L2.Meth X.K C "__iter__" fi) (FI : ItOk X.prog X.w X.K X.mg X.base k fi C fl) (hm : L2.Meth X.K C "__len__" fn) (F1 : FnOk X.prog X.w X.K X.mg X.base (L2N.CX X.prog X.w) k fn fd ps (spLn X.K C gl)) (hb : L2.Binds X.K fd ps []) (hr : Room (k + 3) X.A) (hc : X.calm = true) :
    CallR X (.type "list") (rListO X.K C fl gl) := by
  intro pins s σ H xs us Q I rv h
  obtain ⟨a, dx, fs, l, zs, v, n, rfl, ha, hf, hq, hz, hg, hv, hn, qq⟩ := h
  obtain ⟨u, rfl, ru⟩ := rv.one
  cases ru
  have hh : X.A.in1.in1.handled = none := I.ok.hd hc
  refine callType_codes (Q₁ := fun obj s₁ => obj = .ref s.heap.objs.size ∧ s₁ = { s with heap := s.heap.push { cls := .type "list", data := .seq #[] } }) PySem.F.called_list (PySem.F.typeCall_list_1 _) PySem.F.entry_list_init
    (code_list_new _ ⟨rfl, rfl⟩) fun obj s₁ h₁ => ?_
  obtain ⟨rfl, rfl⟩ := h₁
  have hS : (s.heap.push { cls := .type "list", data := .seq #[] }).get? s.heap.objs.size = some { cls := .type "list", data := .seq #[] } := Heap.get?_push_size _ rfl
  refine ⟨⟨_, hS, rfl⟩, PySem.F.args_list_init_2 _ _, ?_⟩
  have fr : H s.heap.objs.size = none := I.hok.fresh (Nat.le_refl _)
  have I1 : Inv X pins σ (upd H s.heap.objs.size (.lst [])) { s with heap := s.heap.push { cls := .type "list", data := .seq #[] } } := I.lnew (its := []) (t' := s.toks) .nil (Nat.zero_le _)
  show wpAny _ _ (do let old ← Builtin.List.listItems (.ref s.heap.objs.size); Builtin.List.listUpdate (.ref s.heap.objs.size) (fun _ => #[]); letGo old.toList.reverse; Builtin.List.listExtendWith (.ref s.heap.objs.size) (.ref a) .none) _ _ _
  refine wpAny_bind ?_
  unfold Builtin.List.listItems
  refine wpAny_bind (wpAny_seqItems hS rfl (wpAny_pure ?_))
  show wpAny _ _ (updateSeq s.heap.objs.size (fun _ => #[]) >>= fun _ => letGo (#[] : Array Value).toList.reverse >>= fun _ => Builtin.List.listExtendWith (.ref s.heap.objs.size) (.ref a) .none) _ _ _
  refine wpAny_bind (wpAny_updateSeq hS rfl ?_)
  have I2 := I1.lset (f := fun _ => #[]) (its := []) (its' := []) (ys := []) (t' := s.toks) upd_same hS rfl .nil (Nat.zero_le _)
  rw [upd_upd] at I2
  refine wpAny_bind (wpAny_letGo ?_)
  generalize s.heap.objs.size = q at fr I2 qq hS ⊢
  generalize ({ heap := Heap.update _ q _, gens := _, drawn := _, toks := _, os := _ } : Shared) = s3 at I2 ⊢
  have ha2 : upd H q (.lst []) a = some (.ins C dx fs) := by rw [upd_ne (ne_of_none ha fr)]; exact ha
  have hq2 : SqL X.K (upd H q (.lst [])) l zs := (Ex.new fr).l hq
  have hne : q ≠ a := fun z => by rw [← z, fr] at ha; cases ha
  obtain ⟨ox, od, J, _⟩ := ins_at I2 ha2
  obtain ⟨m0, hF⟩ := I2.fr
  unfold Builtin.List.listExtendWith
  refine wpAny_bind (J.type.here ?_)
  have h1 : Builtin.List.listSameRef (.ref q) (.ref a) = false := by simp [Builtin.List.listSameRef, hne]
  have h2 : (Value.ref C == Value.type "list") = false := rfl
  have h3 : (Value.ref C == Value.type "tuple") = false := rfl
  simp only [h1, h2, h3, Bool.or_false, Bool.false_eq_true, if_false]
  have rr : Room (k + 1) X.A.in1.in1 := (show Room (k + 2) X.A.in1 from Room.in1 hr).in1
  refine wpAny_bind (PySem.W.owit_iter hF I2.ok.mod.kin J hi.at_ hi.fn (wpAny_mono (run_it (A := X.A.in1.in1) FI (rr.mono (by omega)) I2.env0.in1.in1 I2 ha2 hf hq2) (fun u s4 z => ?_) fun _ _ z => z))
  obtain ⟨it, rfl, hsz, hit, I4⟩ := z
  have hItO : upd (upd H q (.lst [])) it (ItO l it 0) it = some (ItO l it 0) := upd_same
  have hneI : it ≠ q := fun z => by rw [z, upd_same] at hit; cases hit
  refine it_next I4 hItO ?_
  have hItO' := hItO
  unfold ItO at hItO'
  have I5 := inv_drop I4 hItO'
  rw [dropH_upd hit] at I5
  have fp : FpOk X pins (upd H q (.lst [])) it := by
    have := inv_fp I4 hItO (Nat.le_trans I2.sz hsz)
    rw [dropH_upd hit] at this
    exact this
  have eo := itO_get I4 hItO
  have st : s4.heap.IsListIter it l 0 := ⟨_, eo, rfl, rfl⟩
  have hvq : LenX X.K v (upd H q (.lst [])) n := lenX_put hv fr
  have fin : ∀ s', Inv X pins σ (upd H q (.lst zs)) s' → wants (fun r s₂ => r = .none ∧ EP X pins σ Q (.ref q) s₂) X.xe (.ok (.ret .none)) s' := fun s' I' => ⟨rfl, .ref q, _, I', rfl, qq q fr⟩
  refine wpAny_bind (wpAny_holding (len_hint (A := X.A.in1.in1) hm F1 hb rr I4.env0.in1.in1 I4 (by rw [upd_ne (ne_of_none ha2 hit)]; exact ha2) hg (lenX_put hvq hit) hn fun b s5 I6 => ?_))
  have eo5 := itO_get I6 hItO
  have st5 : s5.heap.IsListIter it l 0 := ⟨_, eo5, rfl, rfl⟩
  have I7 := inv_drop I6 hItO'
  rw [dropH_upd hit] at I7
  obtain ⟨z, its, kk, r3, hl3, e3⟩ := I7.lstM upd_same
  cases r3
  refine wpAny_ite_split (fun _ => ?_) (fun _ => wpAny_pure ⟨plainId_quiet PySem.F.plain_extend_loop _, ext_loop (A1 := X.A.in1) hh fr hq hz fin zs.length 0 s5 (by omega) I7 fp st5⟩)
  refine wpAny_bind (wpAny_rule ?_)
  refine wpAny_bind ?_
  show wpAny _ _ (updateSeq q (·.push .none) >>= fun _ => updateSeq q (·.pop)) _ _ _
  refine wpAny_bind (wpAny_updateSeq e3 rfl ?_)
  have I8 := I7.lset (f := (·.push Value.none)) (its' := [Value.none]) (ys := [.non]) (t' := s5.toks) upd_same e3 (by simp) (.cons rfl .nil) (by rw [List.length_singleton, sizeLine_eq]; decide)
  obtain ⟨z4, its4, k4, r4, hl4, e4⟩ := I8.lstM upd_same
  obtain ⟨u4, rfl, ru4⟩ := r4.one
  refine wpAny_updateSeq e4 rfl ?_ (by show 1 ≤ sizeLine; rw [sizeLine_eq]; decide) (by show 0 ≤ sizeLine + 1; exact Nat.zero_le _)
  have I9 := I8.lset (f := (·.pop)) (its := [u4]) (its' := []) (ys := []) (t' := s5.toks) upd_same e4 (by rfl) .nil (Nat.zero_le _)
  rw [upd_upd, upd_upd] at I9
  refine wpAny_pure ⟨plainId_quiet PySem.F.plain_extend_loop _, ext_loop (A1 := X.A.in1) hh fr hq hz fin zs.length 0 _ (by omega) I9 fp ?_⟩
  obtain ⟨o, eo6, co, do_⟩ := st5
  exact ⟨o, by rw [PySem.Heap.get?_update_ne _ _ _ _ hneI, PySem.Heap.get?_update_ne _ _ _ _ hneI]; exact eo6, co, do_⟩
/-- an object of the class n: a list of the items of its list fl, where its gl has a length -/
noncomputable def listO (n fl gl : Str) (d : D) : Res D := match d with
  | .obj c ns vs => if c = n then (match lookF ns vs fl, lookF ns vs gl with
    | some (.lst ds), some (.lst es) => guard (ds.length ≤ sizeLine ∧ es.length ≤ sizeLine) (.ok (.lst ds))
    | some (.lst ds), some (.dt ks es) => guard (ds.length ≤ sizeLine ∧ ks.length ≤ sizeLine) (.ok (.lst ds))
    | _, _ => .bad) else .bad
  | _ => .bad
theorem cs_listO {c : Cf} {n : Str} (hcn : c.cm n = some C) : CallS c (mO c) (rListO c.K C fl gl) [true] (g1 (listO n fl gl)) := by
  intro σ S H vs ds Q ex m p
  obtain ⟨v, d, rfl, rfl, h⟩ := m.one
  replace p : PostG c σ S H (listO n fl gl d) (fun a S' H' => ∀ b, mO c H S' H' b a → Q b H') := p
  cases d with
  | obj c' ns vs =>
    unfold listO at p
    dsimp only at p
    split at p
    · rename_i hc
      subst hc
      split at p
      · rename_i ds es hd he
        obtain ⟨⟨z1, z2⟩, p⟩ := p.gd
        obtain ⟨q, C', dx, fs, rfl, h1, h2, rfl, h4⟩ := RpB.obj h ex
        rw [hcn] at h1; cases h1
        obtain ⟨v1, hv1, hr1⟩ := look_rp h4 hd
        obtain ⟨v2, hv2, hr2⟩ := look_rp h4 he
        cases hr1 with
        | @lst l xs _ a1 a2 =>
          cases hr2 with
          | @lst l2 ys _ b1 b2 =>
            exact ⟨q, dx, fs, l, xs, .ref l2, ys.length, rfl, h2, hv1, .inl (.inl (ex _ _ a1)), by rw [a2.length]; exact z1, hv2, .inl (.inl ⟨ys, .inl (.inl (ex _ _ b1)), rfl⟩), by rw [b2.length]; exact z2, fun q hq => PostG.kept p ex hq (.lst a2)⟩
      · rename_i ds ks es hd he
        obtain ⟨⟨z1, z2⟩, pk⟩ := p.gd
        obtain ⟨q, C', dx, fs, rfl, h1, h2, rfl, h4⟩ := RpB.obj h ex
        rw [hcn] at h1; cases h1
        obtain ⟨v1, hv1, hr1⟩ := look_rp h4 hd
        obtain ⟨v2, hv2, hr2⟩ := look_rp h4 he
        cases hr1 with
        | @lst l xs _ a1 a2 =>
          cases hr2 with
          | @dt l2 w kvs _ _ b1 b2 b3 =>
            subst b2
            exact ⟨q, dx, fs, l, xs, .ref l2, kvs.length, rfl, h2, hv1, .inl (.inl (ex _ _ a1)), by rw [a2.length]; exact z1, hv2, .inr ⟨l2, kvs, rfl, .inr ⟨_, ex _ _ b1⟩, rfl⟩, by simpa using z2, fun q hq => PostG.kept pk ex hq (.lst a2)⟩
      · exact p.elim
    · exact p.elim
  | _ => exact p.elim
end
end Dx
end S_DxP
section S_DxM
set_option Elab.async false
set_option linter.all false
set_option maxRecDepth 100000
namespace Dx
open PySem L2
def Rs {α : Type} (x : Res α) (Q : α → Prop) (E : Str → List Str → List D → Prop) : Prop := match x with
  | .ok a => Q a
  | .err n ns vs => E n ns vs
  | .bad => False
def nE : Str → List Str → List D → Prop := fun _ _ _ => False
def nR : Rho → Prop := fun _ => False
def Ss (o : SR) (N : Rho → Prop) (R : D → Prop) (B C : Rho → Prop) (E : Rho → Str → List Str → List D → Prop) : Prop := match o with
  | .nx r => N r
  | .rt d => R d
  | .bk r => B r
  | .ct r => C r
  | .er r n ns vs => E r n ns vs
  | .bad => False
section
variable {α β : Type} {Q Q' : α → Prop} {E E' : Str → List Str → List D → Prop}
theorem Rs.imp {x : Res α} (h : Rs x Q nE) (k : ∀ a, Q a → Q' a) : Rs x Q' E := by
  cases x with
  | ok a => exact k a h
  | err n ns vs => exact h.elim
  | bad => exact h.elim
theorem Rs.impE {x : Res α} (h : Rs x Q E) (k : ∀ a, Q a → Q' a) (l : ∀ n ns vs, E n ns vs → E' n ns vs) : Rs x Q' E' := by
  cases x with
  | ok a => exact k a h
  | err n ns vs => exact l _ _ _ h
  | bad => exact h.elim
theorem Rs.of {x : Res α} {a : α} (h : x = .ok a) (q : Q a) : Rs x Q E := by rw [h]; exact q
theorem Rs.eq {x : Res α} {a : α} (h : Rs x (fun b => b = a) nE) : x = .ok a := by
  cases x with
  | ok b => exact congrArg _ h
  | err n ns vs => exact h.elim
  | bad => exact h.elim
theorem Rs.get {x : Res α} (h : Rs x Q nE) : ∃ a, x = .ok a ∧ Q a := by
  cases x with
  | ok a => exact ⟨a, rfl, h⟩
  | err n ns vs => exact h.elim
  | bad => exact h.elim
theorem Rs.bind {x : Res β} {k : β → Res α} (h : Rs x (fun b => Rs (k b) Q E) E) : Rs (x.bind k) Q E := by
  cases x with
  | ok a => exact h
  | err n ns vs => exact h
  | bad => exact h
theorem rs_guard {p : Prop} {x : Res α} (h : p) (k : Rs x Q E) : Rs (guard p x) Q E := by rw [guard_pos h]; exact k
end
section
variable {Q : D → Prop} {E : Str → List Str → List D → Prop} {r : Rho} {f f1 f2 f3 : Rho → Res D} {fs : Rho → Res (List D)} {t u : Rho → Res Bool} {d : D} {i : Nat}
theorem rs_var (h : r[i]? = some (some d)) (q : Q d) : Rs (dVar i r) Q E := by unfold dVar; rw [h]; exact q
theorem rs_c (q : Q d) : Rs (dC d r) Q E := q
theorem rs_op {g : D → D → Res D} (h : Rs (f1 r) (fun a => Rs (f2 r) (fun b => Rs (g a b) Q E) E) E) : Rs (dOp g f1 f2 r) Q E := Rs.bind (h.impE (fun a q => Rs.bind q) fun _ _ _ z => z)
theorem rs_str {g : D → D → Res D} (h : Rs (f1 r) (fun a => Rs (asS a) (fun _ => Rs (f2 r) (fun b => Rs (g a b) Q E) E) E) E) : Rs (dStr g f1 f2 r) Q E := Rs.bind (h.impE (fun a q => Rs.bind (q.impE (fun _ q => Rs.bind q) fun _ _ _ z => z)) fun _ _ _ z => z)
theorem rs_asS {z : Str} {Q : Str → Prop} (q : Q z) : Rs (asS (.str z)) Q E := q
theorem rs_un {g : D → Res D} (h : Rs (f r) (fun a => Rs (g a) Q E) E) : Rs (dUn g f r) Q E := Rs.bind h
theorem rs_nil {Q : List D → Prop} (q : Q []) : Rs (dNil r) Q E := q
theorem rs_cons {Q : List D → Prop} (h : Rs (f r) (fun x => Rs (fs r) (fun xs => Q (x :: xs)) E) E) : Rs (dCons f fs r) Q E := Rs.bind (h.impE (fun a q => Rs.bind q) fun _ _ _ z => z)
theorem rs_call {g : List D → Res D} (h : Rs (fs r) (fun ds => Rs (g ds) Q E) E) : Rs (dCall g fs r) Q E := Rs.bind h
theorem rs_tup (h : Rs (fs r) (fun ds => ds.length ≤ sizeLine ∧ Q (.tup ds)) E) : Rs (dTup fs r) Q E := Rs.bind (h.impE (fun ds q => rs_guard q.1 q.2) fun _ _ _ z => z)
theorem rs_lst (h : Rs (fs r) (fun ds => ds.length ≤ sizeLine ∧ Q (.lst ds)) E) : Rs (dLst fs r) Q E := Rs.bind (h.impE (fun ds q => rs_guard q.1 q.2) fun _ _ _ z => z)
theorem rs_T {Q : Bool → Prop} (h : Rs (f r) (fun d => Rs (asB d) Q E) E) : Rs (dT f r) Q E := Rs.bind h
theorem rs_asB {b : Bool} {Q : Bool → Prop} (q : Q b) : Rs (asB (.bl b)) Q E := q
theorem rs_asI {b : Int} {Q : Int → Prop} (q : Q b) : Rs (asI (.int b)) Q E := q
theorem rs_not {Q : Bool → Prop} (h : Rs (t r) (fun b => Q (!b)) E) : Rs (dNot t r) Q E := Rs.bind h
theorem rs_and {Q : Bool → Prop} (h : Rs (t r) (fun a => Rs (u r) (fun b => Q (a && b)) nE) E) : Rs (dAnd t u r) Q E := Rs.bind (h.impE (fun a q => by
  cases a
  · obtain ⟨b, _, q⟩ := q.get
    exact q
  · exact q.impE (fun _ z => z) fun _ _ _ z => z.elim) fun _ _ _ z => z)
theorem rs_or {Q : Bool → Prop} (h : Rs (t r) (fun a => Rs (u r) (fun b => Q (a || b)) nE) E) : Rs (dOr t u r) Q E := Rs.bind (h.impE (fun a q => by
  cases a
  · exact q.impE (fun _ z => z) fun _ _ _ z => z.elim
  · obtain ⟨b, _, q⟩ := q.get
    exact q) fun _ _ _ z => z)
theorem rs_andc {Q : Bool → Prop} (h : Rs (t r) (fun a => (a = true → Rs (u r) Q E) ∧ (a = false → Q false)) E) : Rs (dAnd t u r) Q E := Rs.bind (h.impE (fun a q => by
  cases a
  · exact q.2 rfl
  · exact q.1 rfl) fun _ _ _ z => z)
theorem rs_orc {Q : Bool → Prop} (h : Rs (t r) (fun a => (a = true → Q true) ∧ (a = false → Rs (u r) Q E)) E) : Rs (dOr t u r) Q E := Rs.bind (h.impE (fun a q => by
  cases a
  · exact q.2 rfl
  · exact q.1 rfl) fun _ _ _ z => z)
theorem rs_andV (h : Rs (f1 r) (fun a => Rs (asB a) (fun a => Rs (f2 r) (fun b => Rs (asB b) (fun b => Q (.bl (a && b))) nE) nE) E) E) : Rs (dAndV f1 f2 r) Q E := Rs.bind (h.impE (fun a q => Rs.bind (q.impE (fun a q => by
  obtain ⟨b, e, q⟩ := q.get
  cases b with
  | bl b =>
    cases a
    · exact q
    · exact Rs.of e q
  | _ => exact q.elim) fun _ _ _ z => z)) fun _ _ _ z => z)
theorem rs_orV (h : Rs (f1 r) (fun a => Rs (asB a) (fun a => Rs (f2 r) (fun b => Rs (asB b) (fun b => Q (.bl (a || b))) nE) nE) E) E) : Rs (dOrV f1 f2 r) Q E := Rs.bind (h.impE (fun a q => Rs.bind (q.impE (fun a q => by
  obtain ⟨b, e, q⟩ := q.get
  cases b with
  | bl b =>
    cases a
    · exact Rs.of e q
    · exact q
  | _ => exact q.elim) fun _ _ _ z => z)) fun _ _ _ z => z)
theorem rs_andVc (h : Rs (f1 r) (fun a => Rs (asB a) (fun a => (a = true → Rs (f2 r) Q E) ∧ (a = false → Q (.bl false))) E) E) : Rs (dAndV f1 f2 r) Q E := Rs.bind (h.impE (fun a q => Rs.bind (q.impE (fun a q => by
  cases a
  · exact q.2 rfl
  · exact q.1 rfl) fun _ _ _ z => z)) fun _ _ _ z => z)
theorem rs_orVc (h : Rs (f1 r) (fun a => Rs (asB a) (fun a => (a = true → Q (.bl true)) ∧ (a = false → Rs (f2 r) Q E)) E) E) : Rs (dOrV f1 f2 r) Q E := Rs.bind (h.impE (fun a q => Rs.bind (q.impE (fun a q => by
  cases a
  · exact q.2 rfl
  · exact q.1 rfl) fun _ _ _ z => z)) fun _ _ _ z => z)
theorem rs_notV (h : Rs (f r) (fun a => Rs (asB a) (fun b => Q (.bl (!b))) E) E) : Rs (dNotV f r) Q E := Rs.bind (h.impE (fun a q => Rs.bind q) fun _ _ _ z => z)
theorem rs_ifx {α : Type} {Q : α → Prop} {f g : Rho → Res α} (h : Rs (t r) (fun b => (b = true → Rs (f r) Q E) ∧ (b = false → Rs (g r) Q E)) E) : Rs (dIf t f g r) Q E := Rs.bind (h.impE (fun a q => by
  cases a
  · exact q.2 rfl
  · exact q.1 rfl) fun _ _ _ z => z)
theorem rs_tru {Q : Bool → Prop} (h : Rs (f r) (fun d => Rs (truB d) Q E) E) : Rs (dTru f r) Q E := Rs.bind h
theorem rs_truB {b : Bool} {Q : Bool → Prop} (q : Q b) : Rs (truB (.bl b)) Q E := q
theorem rs_truI {b : Int} {Q : Bool → Prop} (q : Q (b != 0)) : Rs (truB (.int b)) Q E := q
theorem rs_truL {ds : List D} {Q : Bool → Prop} (q : Q (!ds.isEmpty)) : Rs (truB (.lst ds)) Q E := q
theorem rs_truT {ds : List D} {Q : Bool → Prop} (q : Q (!ds.isEmpty)) : Rs (truB (.tup ds)) Q E := q
theorem rs_truN {Q : Bool → Prop} (q : Q false) : Rs (truB .non) Q E := q
theorem rs_chain {g g' : D → D → Res D} (h : Rs (f1 r) (fun x => Rs (f2 r) (fun y => Rs (g x y) (fun z => Rs (asB z) (fun a => Rs (f3 r) (fun w => Rs (g' y w) (fun e => Rs (asB e) (fun b => Q (.bl (a && b))) nE) nE) nE) E) E) E) E) : Rs (dChain g g' f1 f2 f3 r) Q E :=
  Rs.bind (h.impE (fun x q => Rs.bind (q.impE (fun y q => Rs.bind (q.impE (fun z q => Rs.bind (q.impE (fun a q => by
    obtain ⟨w, e1, q⟩ := q.get
    obtain ⟨e, e2, q⟩ := q.get
    cases e with
    | bl b =>
      cases a
      · exact q
      · exact Rs.bind (Rs.of e1 (Rs.of e2 q))
    | _ => exact q.elim) fun _ _ _ z => z)) fun _ _ _ z => z)) fun _ _ _ z => z)) fun _ _ _ z => z)
theorem rs_noP {Q : Option Int → Prop} (q : Q none) : Rs (dNoP r) Q E := q
theorem rs_part {Q : Option Int → Prop} (h : Rs (f r) (fun d => Rs (asI d) (fun i => Q (some i)) E) E) : Rs (dPart f r) Q E := Rs.bind (h.impE (fun a q => Rs.bind q) fun _ _ _ z => z)
theorem rs_sl {g : D → Option Int → Option Int → Res D} {fl fh : Rho → Res (Option Int)} (h : Rs (f r) (fun d => Rs (fl r) (fun l => Rs (fh r) (fun k => Rs (g d l k) Q E) E) E) E) : Rs (dSl g f fl fh r) Q E := Rs.bind (h.impE (fun a q => Rs.bind (q.impE (fun _ q => Rs.bind q) fun _ _ _ z => z)) fun _ _ _ z => z)
theorem rs_it {g : D → Res (List D)} {Q : List D → Prop} (h : Rs (f r) (fun d => Rs (g d) Q E) E) : Rs (dIt g f r) Q E := Rs.bind h
theorem rs_its {g : List D → Res (List D)} {Q : List D → Prop} (h : Rs (fs r) (fun d => Rs (g d) Q E) E) : Rs (dIts g fs r) Q E := Rs.bind h
theorem rs_yes {Q : Bool → Prop} (q : Q true) : Rs (dYes r) Q E := q
theorem rs_meth {n m : Str} {F : List D → Res D} (h : Rs (f r) (fun x => Rs (isObj n m x) (fun _ => Rs (fs r) (fun ds => Rs (F (x :: ds)) Q E) E) E) E) : Rs (dMeth n m F f fs r) Q E := Rs.bind (h.impE (fun a q => Rs.bind (q.impE (fun _ q => Rs.bind q) fun _ _ _ z => z)) fun _ _ _ z => z)
theorem rs_isObj {n m : Str} {ns : List Str} {vs : List D} {Q : Unit → Prop} (h : m ∉ ns) (q : Q ()) : Rs (isObj n m (.obj n ns vs)) Q E := by
  show Rs (if n = n ∧ m ∉ ns then .ok () else .bad) Q E
  rw [if_pos ⟨rfl, h⟩]; exact q
theorem rs_fld {n fl : Str} {ns : List Str} {vs : List D} (h : lookF ns vs fl = some d) (q : Q d) : Rs (fldD n fl (.obj n ns vs)) Q E := by
  show Rs (if n = n then (match lookF ns vs fl with | some d => .ok d | none => .bad) else .bad) Q E
  rw [if_pos rfl, h]; exact q
end
abbrev Sg (l : List Nat) : Str := ⟨l.toArray⟩
theorem ST_len (l : List Nat) : (Sg l).length = l.length := by simp [Sg, Str.length]
theorem ST_app (a b : List Nat) : Sg a ++ Sg b = Sg (a ++ b) := TL.ext_tl (by rw [TL.tl_append])
theorem ST_inj {a b : List Nat} : Sg a = Sg b ↔ a = b := ⟨fun h => congrArg TL.tl h, fun h => by rw [h]⟩
theorem ST_dec (a b : List Nat) : decide (Sg a = Sg b) = decide (a = b) := by
  by_cases h : a = b
  · subst h; simp
  · simp [h, ST_inj]
section
variable {Q : D → Prop} {E : Str → List Str → List D → Prop} {i j : Int} {a b : List Nat} {ds es : List D} {d e : D}
theorem rs_add (q : Q (.int (i + j))) : Rs (addD (.int i) (.int j)) Q E := q
theorem rs_addS (h : a.length + b.length ≤ sizeLine) (q : Q (.str (Sg (a ++ b)))) : Rs (addD (.str (Sg a)) (.str (Sg b))) Q E := rs_guard (by rw [ST_len, ST_len]; exact h) (by rw [ST_app]; exact q)
theorem rs_addT (h : ds.length + es.length ≤ sizeLine) (q : Q (.tup (ds ++ es))) : Rs (addD (.tup ds) (.tup es)) Q E := rs_guard h q
theorem rs_addLL (h : ds.length + es.length ≤ sizeLine) (q : Q (.lst (ds ++ es))) : Rs (addD (.lst ds) (.lst es)) Q E := rs_guard h q
theorem rs_addLO (h : ds.length + es.length ≤ sizeLine) (q : Q (.lst (ds ++ es))) : Rs (addL (.lst ds) (.lst es)) Q E := rs_guard h q
theorem rs_sub (q : Q (.int (i - j))) : Rs (subD (.int i) (.int j)) Q E := q
theorem rs_neg (q : Q (.int (-i))) : Rs (negD (.int i)) Q E := q
theorem rs_mul (h : smallI i ∨ smallI j) (q : Q (.int (i * j))) : Rs (mulX (.int i) (.int j)) Q E := rs_guard h q
theorem rs_mulL (h : 0 ≤ j ∧ j < 2 ^ 60 ∧ ds.length * j.toNat ≤ sizeLine) (q : Q (.lst (List.replicate j.toNat ds).flatten)) : Rs (mulX (.lst ds) (.int j)) Q E := rs_guard h q
theorem rs_fdiv (h : 0 < j ∧ j < 4611686018427387904) (q : Q (.int (i / j))) : Rs (fdivD (.int i) (.int j)) Q E := by
  show Rs (if 0 < j then guard (j < 4611686018427387904) (.ok (.int (i / j))) else _) Q E
  rw [if_pos h.1]; exact rs_guard h.2 q
theorem rs_mod (h : 0 < j) (q : Q (.int (i % j))) : Rs (modD (.int i) (.int j)) Q E := rs_guard h q
theorem rs_eqI (q : Q (.bl (decide (i = j)))) : Rs (eqD (.int i) (.int j)) Q E := q
theorem rs_neI (q : Q (.bl (!decide (i = j)))) : Rs (neD (.int i) (.int j)) Q E := q
theorem rs_eqS (q : Q (.bl (decide (a = b)))) : Rs (eqD (.str (Sg a)) (.str (Sg b))) Q E := by
  show Q (.bl (decide (Sg a = Sg b)))
  rw [ST_dec]; exact q
theorem rs_neS (q : Q (.bl (!decide (a = b)))) : Rs (neD (.str (Sg a)) (.str (Sg b))) Q E := by
  show Q (.bl (!decide (Sg a = Sg b)))
  rw [ST_dec]; exact q
theorem rs_eqB {x y : Bool} (q : Q (.bl (decide (x = y)))) : Rs (eqD (.bl x) (.bl y)) Q E := q
theorem rs_neB {x y : Bool} (q : Q (.bl (!decide (x = y)))) : Rs (neD (.bl x) (.bl y)) Q E := q
theorem rs_lt (q : Q (.bl (decide (i < j)))) : Rs (ltD (.int i) (.int j)) Q E := q
theorem rs_le (q : Q (.bl (decide (i ≤ j)))) : Rs (leD (.int i) (.int j)) Q E := q
theorem rs_gt (q : Q (.bl (decide (j < i)))) : Rs (gtD (.int i) (.int j)) Q E := q
theorem rs_ge (q : Q (.bl (decide (j ≤ i)))) : Rs (geD (.int i) (.int j)) Q E := q
theorem rs_is (q : Q (.bl (isN d))) : Rs (isD false d .non) Q E := q
theorem rs_isn (q : Q (.bl (!isN d))) : Rs (isD true d .non) Q E := q
theorem rs_inS {n : Nat} (q : Q (.bl (decide (n ∈ b)))) : Rs (inD (.str (Sg [n])) (.str (Sg b))) Q E := q
theorem rs_ninS {n : Nat} (q : Q (.bl (!decide (n ∈ b)))) : Rs (ninD (.str (Sg [n])) (.str (Sg b))) Q E := q
theorem rs_lenS (h : a.length ≤ sizeLine) (q : Q (.int a.length)) : Rs (g1 lenD [.str (Sg a)]) Q E := rs_guard (by rw [ST_len]; exact h) (by show Q _; rw [ST_len]; exact q)
theorem rs_lenL (q : Q (.int ds.length)) : Rs (g1 lenD [.lst ds]) Q E := q
theorem rs_lenF (q : Q (.int ds.length)) : Rs (g1 lenD [.fz ds]) Q E := q
theorem rs_lenT (q : Q (.int ds.length)) : Rs (g1 lenD [.tup ds]) Q E := q
theorem rs_int (q : Q (.int i)) : Rs (g1 intD [.int i]) Q E := q
theorem rs_intB {x : Bool} (q : Q (.int (if x then 1 else 0))) : Rs (g1 intD [.bl x]) Q E := q
theorem rs_abs (q : Q (.int (if i < 0 then -i else i))) : Rs (g1 absD [.int i]) Q E := q
theorem rs_listL (q : Q (.lst ds)) : Rs (g1 listD [.lst ds]) Q E := q
theorem rs_listT (q : Q (.lst ds)) : Rs (g1 listD [.tup ds]) Q E := q
theorem rs_tupL (q : Q (.tup ds)) : Rs (g1 tupleD [.lst ds]) Q E := q
theorem rs_tupT (q : Q (.tup ds)) : Rs (g1 tupleD [.tup ds]) Q E := q
theorem rs_ixL (h : atI ds i = some d) (q : Q d) : Rs (ixD (.lst ds) (.int i)) Q E := by
  show Rs (match atI ds i with | some d => Res.ok d | none => Res.bad) Q E
  rw [h]; exact q
theorem rs_ixF (h : atI ds i = some d) (q : Q d) : Rs (ixD (.fz ds) (.int i)) Q E := by
  show Rs (match atI ds i with | some d => Res.ok d | none => Res.bad) Q E
  rw [h]; exact q
theorem rs_ixT (h : atI ds i = some d) (q : Q d) : Rs (ixD (.tup ds) (.int i)) Q E := by
  show Rs (match atI ds i with | some d => Res.ok d | none => Res.bad) Q E
  rw [h]; exact q
theorem rs_slL {lo hi : Option Int} (q : Q (.lst (cutL ds lo hi))) : Rs (slD (.lst ds) lo hi) Q E := q
theorem rs_slO {lo hi : Option Int} (q : Q (.lst (cutL ds lo hi))) : Rs (slL (.lst ds) lo hi) Q E := q
theorem rs_slT {lo hi : Option Int} (q : Q (.tup (cutL ds lo hi))) : Rs (slD (.tup ds) lo hi) Q E := q
theorem cutS_ST {lo hi : Option Int} : cutS (Sg a) lo hi = Sg (cutL a lo hi) := by
  unfold cutS cutL
  rw [ST_len]
theorem rs_slS {lo hi : Option Int} (h : a.length ≤ sizeLine) (q : Q (.str (Sg (cutL a lo hi)))) : Rs (slD (.str (Sg a)) lo hi) Q E := rs_guard (by rw [ST_len]; exact h) (by rw [cutS_ST]; exact q)
theorem rs_rng1 {n : Nat} {Q : List D → Prop} (h : n < 4611686018427387904) (q : Q (rngL 0 n)) : Rs (rng1 [.int (n : Int)]) Q E := rs_guard (by omega) (by rw [Int.toNat_natCast]; exact q)
theorem rs_itsL {Q : List D → Prop} (q : Q ds) : Rs (itemsL (.lst ds)) Q E := q
theorem rs_itsT {Q : List D → Prop} (q : Q ds) : Rs (itemsT (.tup ds)) Q E := q
theorem rs_itsS {Q : List D → Prop} (q : Q (a.map fun n => .str (Sg [n]))) : Rs (itemsS (.str (Sg a))) Q E := q
theorem rs_enL {Q : List D → Prop} (q : Q (numd 0 ds)) : Rs (enumL (.lst ds)) Q E := q
theorem rs_enT {Q : List D → Prop} (q : Q (numd 0 ds)) : Rs (enumT (.tup ds)) Q E := q
theorem rs_enS {Q : List D → Prop} (q : Q (numd 0 (a.map fun n => .str (Sg [n])))) : Rs (enumS (.str (Sg a))) Q E := q
theorem rs_isi {T n : String} {b : Bool} (h1 : tyN d = some n) (h2 : kitB n T = some b) (q : Q (.bl b)) : Rs (isiD T d) Q E := by unfold isiD; rw [h1]; dsimp only; rw [h2]; exact q
end
section
variable {N B C : Rho → Prop} {R : D → Prop} {E : Rho → Str → List Str → List D → Prop} {r : Rho} {f f1 f2 fi : Rho → Res D} {fs : Rho → Res (List D)} {t : Rho → Res Bool} {d : D} {F K : Rho → SR} {i j : Nat}
theorem Ss.imp {N' B' C' : Rho → Prop} {R' : D → Prop} {E' : Rho → Str → List Str → List D → Prop} {o : SR} (h : Ss o N R B C E) (hn : ∀ r, N r → N' r) (hr : ∀ d, R d → R' d) (hb : ∀ r, B r → B' r) (hc : ∀ r, C r → C' r) (he : ∀ r n ns vs, E r n ns vs → E' r n ns vs) : Ss o N' R' B' C' E' := by
  cases o with
  | nx r => exact hn _ h
  | rt d => exact hr _ h
  | bk r => exact hb _ h
  | ct r => exact hc _ h
  | er r n ns vs => exact he _ _ _ _ h
  | bad => exact h
theorem ss_nx (h : N r) : Ss (.nx r) N R B C E := h
theorem ss_bk (h : B r) : Ss (.bk r) N R B C E := h
theorem ss_ct (h : C r) : Ss (.ct r) N R B C E := h
theorem ss_lift {α : Type} {x : Res α} {k : α → SR} (h : Rs x (fun a => Ss (k a) N R B C E) (E r)) : Ss (liftS r x k) N R B C E := by
  cases x with
  | ok a => exact h
  | err n ns vs => exact h
  | bad => exact h
theorem ss_seq (h : Ss (F r) (fun r' => Ss (K r') N R B C E) R B C E) : Ss (seqF F K r) N R B C E := by
  unfold seqF
  cases e : F r with
  | nx r' => rw [e] at h; exact h
  | rt d => rw [e] at h; exact h
  | bk r => rw [e] at h; exact h
  | ct r => rw [e] at h; exact h
  | er r n ns vs => rw [e] at h; exact h
  | bad => rw [e] at h; exact h
theorem ss_set (h : Rs (f r) (fun d => N (r.set i (some d))) (E r)) : Ss (setF i f r) N R B C E := ss_lift h
theorem ss_ret (h : Rs (f r) R (E r)) : Ss (retF f r) N R B C E := ss_lift h
theorem ss_drop (h : Rs (f r) (fun _ => N r) (E r)) : Ss (dropF f r) N R B C E := ss_lift h
theorem ss_if (h : Rs (t r) (fun b => (b = true → Ss (F r) N R B C E) ∧ (b = false → Ss (K r) N R B C E)) (E r)) : Ss (ifF t F K r) N R B C E := ss_lift (h.impE (fun b q => by
  cases b
  · exact q.2 rfl
  · exact q.1 rfl) fun _ _ _ z => z)
theorem ss_app {ds : List D} (h1 : r[i]? = some (some (.lst ds))) (h : Rs (f r) (fun d => ds.length < sizeLine ∧ N (r.set i (some (.lst (ds ++ [d]))))) (E r)) : Ss (appF i f r) N R B C E := by
  unfold appF
  refine ss_lift (Rs.of (a := ds) (by unfold ownL; rw [h1]) (ss_lift (h.impE (fun d q => ?_) fun _ _ _ z => z)))
  rw [guardS_pos q.1]; exact q.2
theorem ss_asg {tg : D → Rho → Res Rho} (h : Rs (f r) (fun d => ∃ r', tg d r = .ok r' ∧ N r') (E r)) : Ss (asgF tg f r) N R B C E := ss_lift (h.impE (fun d q => by
  obtain ⟨r', e, q⟩ := q
  rw [e]; exact q) fun _ _ _ z => z)
theorem ss_par (h : Rs (f1 r) (fun d => Rs (f2 r) (fun e => N ((r.set i (some d)).set j (some e))) (E r)) (E r)) : Ss (parF i j f1 f2 r) N R B C E := ss_lift (rs_cons (h.impE (fun d q => rs_cons (q.impE (fun e q => rs_nil q) fun _ _ _ z => z)) fun _ _ _ z => z))
theorem ss_aug {g : D → D → Res D} (h : Rs (dVar i r) (fun x => Rs (f r) (fun y => Rs (g x y) (fun z => N (r.set i (some z))) (E r)) (E r)) (E r)) : Ss (augF i g f r) N R B C E := ss_lift (h.impE (fun x q => ss_lift (q.impE (fun y q => ss_lift q) fun _ _ _ z => z)) fun _ _ _ z => z)
theorem rs_ints {g : Int → Int → Int} {Q : D → Prop} {E : Str → List Str → List D → Prop} {i j : Int} (q : Q (.int (g i j))) : Rs (intsD g (.int i) (.int j)) Q E := q
theorem ss_sto {ds : List D} {k : Int} {n : Nat} (h : Rs (f r) (fun d => r[i]? = some (some (.lst ds)) ∧ Rs (fi r) (fun x => x = .int k ∧ ixN ds.length k = some n ∧ N (r.set i (some (.lst (ds.set n d))))) (E r)) (E r)) : Ss (stoF i fi f r) N R B C E := ss_lift (h.impE (fun d q => ss_lift (Rs.of (a := ds) (by unfold ownL; rw [q.1]) (ss_lift (q.2.impE (fun x q => by
  obtain ⟨rfl, h2, h3⟩ := q
  refine ss_lift ?_
  show Ss (match ixN ds.length k with | some j => SR.nx (r.set i (some (.lst (ds.set j d)))) | none => .bad) N R B C E
  rw [h2]; exact h3) fun _ _ _ z => z)))) fun _ _ _ z => z)
theorem ss_fst {n fl : Str} {ns : List Str} {vs : List D} (h : Rs (f r) (fun d => r[i]? = some (some (.obj n ns vs)) ∧ ns.length < 1000 ∧ N (r.set i (some (.obj n (putN fl d ns vs).1 (putN fl d ns vs).2)))) (E r)) : Ss (fstF i n fl f r) N R B C E := ss_lift (h.impE (fun d q => by
  rw [q.1]
  show Ss (if n = n ∧ ns.length < 1000 then _ else _) N R B C E
  rw [if_pos ⟨rfl, q.2.1⟩]; exact q.2.2) fun _ _ _ z => z)
theorem ss_cut {N' : Rho → Prop} {o : SR} (M : Rho → Prop) (h : Ss o M R B C E) (k : ∀ r, M r → N' r) : Ss o N' R B C E := h.imp k (fun _ z => z) (fun _ z => z) (fun _ z => z) fun _ _ _ _ z => z
theorem ss_loop {tg : D → Rho → Res Rho} (I : Nat → Rho → Prop) : ∀ (ds : List D) (k : Nat) (r : Rho), I k r →
    (∀ i d r, ds[i]? = some d → I (k + i) r → ∃ r1, tg d r = .ok r1 ∧ Ss (F r1) (I (k + i + 1)) R N (I (k + i + 1)) E) → (∀ r, I (k + ds.length) r → N r) → Ss (loopF tg F ds r) N R B C E
  | [], k, r, h0, _, he => he r h0
  | d :: ds, k, r, h0, hs, he => by
    obtain ⟨r1, e1, h1⟩ := hs 0 d r rfl h0
    have go : ∀ r2, I (k + 1) r2 → Ss (loopF tg F ds r2) N R B C E := fun r2 h2 => ss_loop I ds (k + 1) r2 h2 (fun i d r h hi => by
      have z := hs (i + 1) d r (by simpa using h) (by rw [show k + (i + 1) = k + 1 + i from by omega]; exact hi)
      rw [show k + (i + 1) = k + 1 + i from by omega] at z
      exact z) fun r h => he r (by rw [List.length_cons, show k + (ds.length + 1) = k + 1 + ds.length from by omega]; exact h)
    rw [loopF, e1]
    dsimp only
    cases e : F r1 with
    | nx r2 => rw [e] at h1; exact go r2 h1
    | ct r2 => rw [e] at h1; exact go r2 h1
    | bk r2 => rw [e] at h1; exact h1
    | rt d => rw [e] at h1; exact h1
    | er r n ns vs => rw [e] at h1; exact h1
    | bad => rw [e] at h1; exact h1
/-- a for, by an invariant at each number of items -/
theorem ss_for {its : Rho → Res (List D)} {tg : D → Rho → Res Rho} (I : Nat → Rho → Prop) (h : Rs (its r) (fun ds => I 0 r ∧ (∀ i d r, ds[i]? = some d → I i r → ∃ r1, tg d r = .ok r1 ∧ Ss (F r1) (I (i + 1)) R N (I (i + 1)) E) ∧ ∀ r, I ds.length r → N r) (E r)) : Ss (forF its tg F r) N R B C E :=
  ss_lift (h.impE (fun ds q => ss_loop I ds 0 r q.1 (fun i d r h1 h2 => by
    have z := q.2.1 i d r h1 (by rw [Nat.zero_add] at h2; exact h2)
    rw [Nat.zero_add]; exact z) fun r h => q.2.2 r (by rw [Nat.zero_add] at h; exact h)) fun _ _ _ z => z)
theorem rngL_get {a : Int} {n i : Nat} {d : D} (h : (rngL a n)[i]? = some d) : i < n ∧ d = .int (a + (i : Int)) := by
  unfold rngL at h
  rw [List.getElem?_map] at h
  by_cases hi : i < n
  · rw [List.getElem?_range hi] at h
    cases h
    exact ⟨hi, rfl⟩
  · rw [List.getElem?_eq_none (by simp; omega)] at h
    cases h
theorem rngL_len (a : Int) (n : Nat) : (rngL a n).length = n := by unfold rngL; simp
/-- for k in range(n) -/
theorem ss_rng {m : Nat} (n : Nat) (I : Nat → Rho → Prop) (h : Rs (f r) (fun d => d = .int (n : Int)) (E r)) (hn : n < 4611686018427387904) (h0 : I 0 r) (hs : ∀ i r, i < n → I i r → Ss (F (r.set m (some (.int (i : Int))))) (I (i + 1)) R N (I (i + 1)) E) (he : ∀ r, I n r → N r) : Ss (forF (dIts rng1 (dCons f dNil)) (tgN m) F r) N R B C E :=
  ss_for I (rs_its (rs_cons (h.impE (fun d q => by
    subst q
    refine rs_nil (rs_rng1 hn ⟨h0, fun i d r h1 h2 => ?_, fun r h => he r (by rw [rngL_len] at h; exact h)⟩)
    obtain ⟨h3, rfl⟩ := rngL_get h1
    exact ⟨_, rfl, by rw [Int.zero_add]; exact hs i r h3 h2⟩) fun _ _ _ z => z)))
/-- for x in xs -/
theorem ss_each {α : Type} {m : Nat} (g : α → D) (xs : List α) (I : Nat → Rho → Prop) (h : Rs (f r) (fun d => d = .lst (xs.map g)) (E r)) (h0 : I 0 r) (hs : ∀ i x r, xs[i]? = some x → I i r → Ss (F (r.set m (some (g x)))) (I (i + 1)) R N (I (i + 1)) E) (he : ∀ r, I xs.length r → N r) : Ss (forF (dIt itemsL f) (tgN m) F r) N R B C E :=
  ss_for I (rs_it (h.impE (fun d q => by
    subst q
    refine rs_itsL ⟨h0, fun i d r h1 h2 => ?_, fun r h => he r (by rw [List.length_map] at h; exact h)⟩
    rw [List.getElem?_map] at h1
    cases hx : xs[i]? with
    | none => rw [hx] at h1; cases h1
    | some x => rw [hx] at h1; cases h1; exact ⟨_, rfl, hs i x r hx h2⟩) fun _ _ _ z => z))
end
section
variable {Q : D → Prop} {E : Str → List Str → List D → Prop} {r : Rho} {f : Rho → Res D} {its : Rho → Res (List D)} {tg : D → Rho → Res Rho} {tt : Rho → Res Bool} {fe : Rho → Res D} {vs : List Nat}
theorem lc_mapX {α : Type} (c g : α → D) {rw : Rho} : ∀ xs : List α, (∀ x ∈ xs, ∃ r1, tg (c x) rw = .ok r1 ∧ tt r1 = .ok true ∧ Rs (fe r1) (fun e => e = g x) nE) → lcLoop tg tt fe rw (xs.map c) = .ok (xs.map g)
  | [], _ => rfl
  | x :: xs, h => by
    obtain ⟨r1, h1, h2, h3⟩ := h x (by simp)
    rw [List.map_cons, lcLoop, h1]
    dsimp only
    rw [h2]
    dsimp only
    rw [h3.eq]
    dsimp only
    rw [lc_mapX c g xs fun y hy => h y (by simp [hy])]
    rfl
theorem rs_lc {α : Type} (c g : α → D) (xs : List α) (hi : Rs (its r) (fun ds => ds = xs.map c) E) (hl : xs.length ≤ sizeLine) (hs : ∀ x ∈ xs, ∃ r1, tg (c x) (wipeR r vs) = .ok r1 ∧ tt r1 = .ok true ∧ Rs (fe r1) (fun e => e = g x) nE) (q : Q (.lst (xs.map g))) : Rs (dLc its tg tt fe vs r) Q E :=
  Rs.bind (hi.impE (fun ds e => by
    subst e
    refine rs_guard (by rw [List.length_map]; exact hl) ?_
    rw [lc_mapX c g xs hs]; exact q) fun _ _ _ z => z)
theorem rng0_map (n : Nat) : rngL 0 n = (List.range n).map fun (i : Nat) => D.int (i : Int) := by
  unfold rngL
  refine List.map_congr_left fun k _ => ?_
  rw [Int.zero_add]
/-- range(n) as the items of a comprehension -/
theorem rs_rngC {n : Nat} (h : Rs (f r) (fun d => d = .int (n : Int)) E) (hn : n < 4611686018427387904) : Rs (dIts rng1 (dCons f dNil) r) (fun ds => ds = (List.range n).map fun (i : Nat) => D.int (i : Int)) E :=
  rs_its (rs_cons (h.impE (fun d q => by subst q; exact rs_nil (rs_rng1 hn (rng0_map n))) fun _ _ _ z => z))
theorem rs_run {n : Nat} {F : Rho → SR} {as : List D} (h : Ss (F (startR n as)) (fun _ => Q .non) Q nR nR (fun _ => E)) : Rs (runF n false F as) Q E := by
  unfold runF
  cases e : F (startR n as) with
  | nx r => rw [e] at h; exact h
  | rt d => rw [e] at h; exact h
  | bk r => rw [e] at h; exact h.elim
  | ct r => rw [e] at h; exact h.elim
  | er r n ns vs => rw [e] at h; exact h
  | bad => rw [e] at h; exact h.elim
theorem rs_runT {n : Nat} {F : Rho → SR} {as : List D} (h : Ss (F (startR n as)) nR Q nR nR (fun _ => E)) : Rs (runF n true F as) Q E := by
  unfold runF
  cases e : F (startR n as) with
  | nx r => rw [e] at h; exact h.elim
  | rt d => rw [e] at h; exact h
  | bk r => rw [e] at h; exact h.elim
  | ct r => rw [e] at h; exact h.elim
  | er r n ns vs => rw [e] at h; exact h
  | bad => rw [e] at h; exact h.elim
theorem rs_runI {n : Nat} {cls : Str} {F : Rho → SR} {as : List D} (h : Ss (F (startI n cls as)) (fun r => ∃ d, r[0]? = some (some d) ∧ Q d) (fun _ => False) nR nR (fun _ => E)) : Rs (runI n cls F as) Q E := by
  unfold runI
  cases e : F (startI n cls as) with
  | nx r => rw [e] at h; obtain ⟨d, h1, h2⟩ := h; dsimp only; rw [h1]; exact h2
  | rt d => rw [e] at h; exact h.elim
  | bk r => rw [e] at h; exact h.elim
  | ct r => rw [e] at h; exact h.elim
  | er r n ns vs => rw [e] at h; exact h
  | bad => rw [e] at h; exact h.elim
end
end Dx
namespace Dx
open PySem L2
theorem sz5 : (100000 : Nat) ≤ sizeLine := by decide
theorem small_of {i : Int} (h : -1000000000000 < i) (h' : i < 1000000000000) : smallI i := by unfold smallI; omega
def Fit : List Int → List Int → Prop
  | [], [] => True
  | v :: vs, l :: ls => 0 ≤ v ∧ v < l ∧ Fit vs ls
  | _, _ => False
theorem Fit.cons {vs : List Int} {l : Int} {ls : List Int} (h : Fit vs (l :: ls)) : ∃ v us, vs = v :: us ∧ 0 ≤ v ∧ v < l ∧ Fit us ls := by
  cases vs with
  | nil => exact h.elim
  | cons v us => exact ⟨v, us, rfl, h⟩
theorem Fit.nil {vs : List Int} (h : Fit vs []) : vs = [] := by
  cases vs with
  | nil => rfl
  | cons v us => exact h.elim
theorem Fit.len : ∀ {vs ls : List Int}, Fit vs ls → vs.length = ls.length
  | [], [], _ => rfl
  | v :: vs, l :: ls, h => by simp [Fit.len h.2.2]
  | [], _ :: _, h => h.elim
  | _ :: _, [], h => h.elim
theorem Fit.snoc : ∀ {vs ls : List Int} {v l : Int}, Fit vs ls → 0 ≤ v → v < l → Fit (vs ++ [v]) (ls ++ [l])
  | [], [], v, l, _, h1, h2 => ⟨h1, h2, trivial⟩
  | a :: vs, b :: ls, v, l, h, h1, h2 => ⟨h.1, h.2.1, Fit.snoc h.2.2 h1 h2⟩
  | [], _ :: _, _, _, h, _, _ => h.elim
  | _ :: _, [], _, _, h, _, _ => h.elim
theorem Fit.get : ∀ {vs ls : List Int} {k : Nat} {l : Int}, Fit vs ls → ls[k]? = some l → ∃ v, vs[k]? = some v ∧ 0 ≤ v ∧ v < l
  | [], [], _, _, _, h => by simp at h
  | v :: vs, l :: ls, 0, l', h, e => by simp at e; subst e; exact ⟨v, by simp, h.1, h.2.1⟩
  | v :: vs, l :: ls, k + 1, l', h, e => by
    obtain ⟨w, h1, h2⟩ := Fit.get (k := k) h.2.2 (by simpa using e)
    exact ⟨w, by simpa using h1, h2⟩
  | [], _ :: _, _, _, h, _ => h.elim
  | _ :: _, [], _, _, h, _ => h.elim
abbrev iL (ns : List Int) : D := .lst (ns.map D.int)
theorem take_snoc {α : Type} {xs : List α} {i : Nat} {x : α} (h : xs[i]? = some x) : xs.take (i + 1) = xs.take i ++ [x] := by
  rw [List.take_add_one, h]; rfl
end Dx
end S_DxM
section S_DxN
set_option Elab.async false
set_option linter.all false
set_option maxRecDepth 100000
namespace Dx
open PySem L2
def endB (a b : List Nat) : Bool := decide (b.length ≤ a.length) && decide (a.drop (a.length - b.length) = b)
def startB (a b : List Nat) : Bool := decide (b.length ≤ a.length) && decide (a.take b.length = b)
theorem beq_dec (a b : List Nat) : (a == b) = decide (a = b) := by
  by_cases h : a = b
  · subst h; simp
  · simp [h]
theorem end_ST (a b : List Nat) : Txt.endswith (Sg a) (Sg b) = endB a b := by
  unfold Txt.endswith endB
  rw [PySem.StrLaws.subAt_eq, ST_len, ST_len, Nat.zero_add]
  show (decide (b.length ≤ a.length) && ((a.drop (a.length - b.length)).take b.length == b)) = _
  by_cases h : b.length ≤ a.length
  · rw [List.take_of_length_le (by rw [List.length_drop]; omega), beq_dec]
  · rw [decide_eq_false h]; rfl
theorem start_ST (a b : List Nat) : Txt.startswith (Sg a) (Sg b) = startB a b := by
  unfold Txt.startswith startB
  rw [PySem.StrLaws.subAt_eq, ST_len, ST_len, Nat.zero_add]
  show (decide (b.length ≤ a.length) && ((a.drop 0).take b.length == b)) = _
  rw [List.drop_zero, beq_dec]
/-- split at one sign -/
abbrev spc (c : Nat) (a : List Nat) : List (List Nat) := TL.spl [c] 0 [] a
theorem split_ST (a : List Nat) (c : Nat) (hc : c < 256) : Txt.split (Sg a) (Sg [c]) = (spc c a).map Sg := by
  refine TL.map_tl_inj ?_
  rw [TL.split_spl _ _ (by show [c] ≠ []; simp) (TL.kind_ok (by show #[c].all _ = true; simp [hc])), List.map_map]
  show spc c a = _
  rw [show TL.tl ∘ Sg = id from rfl, List.map_id]
section
variable {Q : D → Prop} {E : Str → List Str → List D → Prop} {a b : List Nat}
theorem rs_end (q : Q (.bl (endB a b))) : Rs (endD (.str (Sg a)) (.str (Sg b))) Q E := by
  show Q (.bl (Txt.endswith (Sg a) (Sg b)))
  rw [end_ST]; exact q
theorem rs_start (q : Q (.bl (startB a b))) : Rs (startD (.str (Sg a)) (.str (Sg b))) Q E := by
  show Q (.bl (Txt.startswith (Sg a) (Sg b)))
  rw [start_ST]; exact q
theorem rs_split {c : Nat} (h : c < 256 ∧ a.length + 2 ≤ sizeLine) (q : Q (.lst ((spc c a).map fun l => .str (Sg l)))) : Rs (splitD (.str (Sg a)) (.str (Sg [c]))) Q E := by
  refine rs_guard ⟨rfl, by rw [ST_len]; exact h.2⟩ ?_
  show Q (.lst (strsD (Txt.split (Sg a) (Sg [c]))))
  rw [split_ST a c h.1]
  unfold strsD
  rw [List.map_map]; exact q
end
section
variable {Q : D → Prop} {E : Str → List Str → List D → Prop}
theorem rs_isi_non_bool  (q : Q (.bl false)) : Rs (isiD "bool" .non) Q E := rs_isi rfl (by decide +kernel) q
theorem rs_isi_non_int  (q : Q (.bl false)) : Rs (isiD "int" .non) Q E := rs_isi rfl (by decide +kernel) q
theorem rs_isi_non_str  (q : Q (.bl false)) : Rs (isiD "str" .non) Q E := rs_isi rfl (by decide +kernel) q
theorem rs_isi_non_tuple  (q : Q (.bl false)) : Rs (isiD "tuple" .non) Q E := rs_isi rfl (by decide +kernel) q
theorem rs_isi_non_list  (q : Q (.bl false)) : Rs (isiD "list" .non) Q E := rs_isi rfl (by decide +kernel) q
theorem rs_isi_bl_bool {x : Bool} (q : Q (.bl true)) : Rs (isiD "bool" (.bl x)) Q E := rs_isi rfl (by decide +kernel) q
theorem rs_isi_bl_int {x : Bool} (q : Q (.bl true)) : Rs (isiD "int" (.bl x)) Q E := rs_isi rfl (by decide +kernel) q
theorem rs_isi_bl_str {x : Bool} (q : Q (.bl false)) : Rs (isiD "str" (.bl x)) Q E := rs_isi rfl (by decide +kernel) q
theorem rs_isi_bl_tuple {x : Bool} (q : Q (.bl false)) : Rs (isiD "tuple" (.bl x)) Q E := rs_isi rfl (by decide +kernel) q
theorem rs_isi_bl_list {x : Bool} (q : Q (.bl false)) : Rs (isiD "list" (.bl x)) Q E := rs_isi rfl (by decide +kernel) q
theorem rs_isi_int_bool {x : Int} (q : Q (.bl false)) : Rs (isiD "bool" (.int x)) Q E := rs_isi rfl (by decide +kernel) q
theorem rs_isi_int_int {x : Int} (q : Q (.bl true)) : Rs (isiD "int" (.int x)) Q E := rs_isi rfl (by decide +kernel) q
theorem rs_isi_int_str {x : Int} (q : Q (.bl false)) : Rs (isiD "str" (.int x)) Q E := rs_isi rfl (by decide +kernel) q
theorem rs_isi_int_tuple {x : Int} (q : Q (.bl false)) : Rs (isiD "tuple" (.int x)) Q E := rs_isi rfl (by decide +kernel) q
theorem rs_isi_int_list {x : Int} (q : Q (.bl false)) : Rs (isiD "list" (.int x)) Q E := rs_isi rfl (by decide +kernel) q
theorem rs_isi_str_bool {x : Str} (q : Q (.bl false)) : Rs (isiD "bool" (.str x)) Q E := rs_isi rfl (by decide +kernel) q
theorem rs_isi_str_int {x : Str} (q : Q (.bl false)) : Rs (isiD "int" (.str x)) Q E := rs_isi rfl (by decide +kernel) q
theorem rs_isi_str_str {x : Str} (q : Q (.bl true)) : Rs (isiD "str" (.str x)) Q E := rs_isi rfl (by decide +kernel) q
theorem rs_isi_str_tuple {x : Str} (q : Q (.bl false)) : Rs (isiD "tuple" (.str x)) Q E := rs_isi rfl (by decide +kernel) q
theorem rs_isi_str_list {x : Str} (q : Q (.bl false)) : Rs (isiD "list" (.str x)) Q E := rs_isi rfl (by decide +kernel) q
theorem rs_isi_lst_bool {x : List D} (q : Q (.bl false)) : Rs (isiD "bool" (.lst x)) Q E := rs_isi rfl (by decide +kernel) q
theorem rs_isi_lst_int {x : List D} (q : Q (.bl false)) : Rs (isiD "int" (.lst x)) Q E := rs_isi rfl (by decide +kernel) q
theorem rs_isi_lst_str {x : List D} (q : Q (.bl false)) : Rs (isiD "str" (.lst x)) Q E := rs_isi rfl (by decide +kernel) q
theorem rs_isi_lst_tuple {x : List D} (q : Q (.bl false)) : Rs (isiD "tuple" (.lst x)) Q E := rs_isi rfl (by decide +kernel) q
theorem rs_isi_lst_list {x : List D} (q : Q (.bl true)) : Rs (isiD "list" (.lst x)) Q E := rs_isi rfl (by decide +kernel) q
theorem rs_isi_tup_bool {x : List D} (q : Q (.bl false)) : Rs (isiD "bool" (.tup x)) Q E := rs_isi rfl (by decide +kernel) q
theorem rs_isi_tup_int {x : List D} (q : Q (.bl false)) : Rs (isiD "int" (.tup x)) Q E := rs_isi rfl (by decide +kernel) q
theorem rs_isi_tup_str {x : List D} (q : Q (.bl false)) : Rs (isiD "str" (.tup x)) Q E := rs_isi rfl (by decide +kernel) q
theorem rs_isi_tup_tuple {x : List D} (q : Q (.bl true)) : Rs (isiD "tuple" (.tup x)) Q E := rs_isi rfl (by decide +kernel) q
theorem rs_isi_tup_list {x : List D} (q : Q (.bl false)) : Rs (isiD "list" (.tup x)) Q E := rs_isi rfl (by decide +kernel) q
end
theorem cut_drop {α : Type} (a : List α) (k : Nat) : cutL a (some (k : Int)) none = a.drop k := by
  unfold cutL
  rw [HT.sIx_none, HT.sIx_nat]
  by_cases h : k ≤ a.length
  · rw [Nat.min_eq_left h, List.take_of_length_le (by rw [List.length_drop]; omega)]
  · rw [Nat.min_eq_right (by omega), Nat.sub_self, List.take_zero, List.drop_of_length_le (by omega)]
theorem cut_mid {α : Type} (a : List α) (j k : Nat) : cutL a (some (j : Int)) (some (k : Int)) = (a.take k).drop j := by
  unfold cutL
  rw [HT.sIx_nat, HT.sIx_nat, List.drop_take]
  by_cases h2 : j ≤ a.length
  · rw [Nat.min_eq_left h2]
    by_cases h : k ≤ a.length
    · rw [Nat.min_eq_left h]
    · rw [Nat.min_eq_right (by omega), List.take_of_length_le (by rw [List.length_drop]; omega), List.take_of_length_le (by rw [List.length_drop]; omega)]
  · rw [List.drop_of_length_le (show a.length ≤ j by omega), List.drop_of_length_le (by omega)]
    simp
/-- a[:-k] -/
theorem cut_back {α : Type} (a : List α) (k : Nat) (hk : 0 < k) : cutL a none (some (-(k : Int))) = a.take (a.length - k) := by
  unfold cutL
  have e : HT.sIx a.length a.length (some (-(k : Int))) = a.length - k := by
    show (if -(k : Int) < 0 then (-(k : Int) + (a.length : Int)).toNat else _) = _
    rw [if_pos (by omega)]; omega
  rw [e, HT.sIx_none, List.drop_zero, Nat.sub_zero]
end Dx
end S_DxN
section S_DxQ
set_option Elab.async false
set_option linter.all false
set_option maxRecDepth 100000
namespace Dx
open PySem L2
section
variable {Q : D → Prop} {E : Str → List Str → List D → Prop} {r : Rho} {f f1 : Rho → Res D} {fs : Rho → Res (List D)} {n fl gl : Str} {ns : List Str} {vs ds es : List D} {F : List D → Res D} {x d : D}
theorem rs_star {Q : List D → Prop} (h : Rs (f r) (fun d => Rs (items d) (fun xs => Rs (fs r) (fun ys => Q (xs ++ ys)) E) E) E) : Rs (dStar f fs r) Q E := Rs.bind (h.impE (fun a q => Rs.bind (q.impE (fun _ q => Rs.bind q) fun _ _ _ z => z)) fun _ _ _ z => z)
theorem rs_itemsL {Q : List D → Prop} (q : Q ds) : Rs (items (.lst ds)) Q E := q
theorem rs_itemsT {Q : List D → Prop} (q : Q ds) : Rs (items (.tup ds)) Q E := q
theorem rs_zipL {Q : List D → Prop} (q : Q (pairs ds es)) : Rs (zipL [.lst ds, .lst es]) Q E := q
theorem rs_zipS {a b : List Nat} {Q : List D → Prop} (q : Q (pairs (a.map fun n => .str (Sg [n])) (b.map fun n => .str (Sg [n])))) : Rs (zipS [.str (Sg a), .str (Sg b)]) Q E := q
theorem isCls_self : isCls n (.obj n ns vs) = true := by unfold isCls; exact decide_eq_true rfl
theorem rs_lenO {i : Int} (hF : F [.obj n ns vs] = .ok (.int i)) (hi : 0 ≤ i ∧ i < 2 ^ 63) (q : Q (.int i)) : Rs (g1 (lenO n F) [.obj n ns vs]) Q E := by
  show Rs (lenO n F (.obj n ns vs)) Q E
  unfold lenO
  rw [if_pos isCls_self, hF]
  exact rs_guard hi q
theorem rs_listO (h1 : lookF ns vs fl = some (.lst ds)) (h2 : lookF ns vs gl = some (.lst es)) (h3 : ds.length ≤ sizeLine) (h4 : es.length ≤ sizeLine) (q : Q (.lst ds)) : Rs (g1 (listO n fl gl) [.obj n ns vs]) Q E := by
  show Rs (listO n fl gl (.obj n ns vs)) Q E
  unfold listO
  dsimp only
  rw [if_pos rfl, h1, h2]
  exact rs_guard ⟨h3, h4⟩ q
end
end Dx
end S_DxQ
section S_DxR
set_option Elab.async false
set_option linter.all false
set_option maxRecDepth 100000
set_option maxHeartbeats 2000000
namespace Dx
open PySem L2 ItX
open PyProof.Rows hiding St
def tyAll : List String := ["NoneType", "bool", "int", "str", "list", "tuple", "dict"]
structure IsC (K : PySem.W.Frag) (C : Addr) : Prop where
  cl : Cls K C
  ha : PySem.W.findIn K (.ref C) "__class__" = some (some (.builtin "object.__class__"))
  hn : PySem.W.specialIn K (.builtin "object.__class__") "__get__" = some (some (.builtin "getset_descriptor.__get__"))
  tk : PySem.W.takesIn K (.builtin "object.__class__") = some true
  hm : PySem.W.mroIn K C (.type "object") = some true
  self : PySem.W.kitOne K (.ref C) (.ref C) = some true
  no : ∀ t ∈ tyAll, PySem.W.kitOne K (.type t) (.ref C) = some false
theorem tyN_all {d : D} {t : String} (h : tyN d = some t) : t ∈ tyAll := by
  cases d <;> cases h <;> decide
def isiO (n : Str) (d : D) : Res D := if isCls n d = true then .ok (.bl true) else match tyN d with
  | some _ => .ok (.bl false)
  | none => .bad
section
variable {X : Cx} {c : Cf} {L G G' : List Ow} {f f1 f2 : Rho → Res D} {e o a b : Expr} {es : List Expr} {pos apos p : Pos} {fs : Rho → Res (List D)} {n : Str} {C : Addr} {F : List D → Res D} {rm : Bool} {k : Nat} {fa : Addr} {fd : FuncData} {ps : List Str}
theorem ty_ins {H : Hp} {q dx : Addr} {gs : List (Str × V)} (ic : IsC X.K C) (h : H q = some (.ins C dx gs)) : TyX X.K H (.ref q) (.ref C) := .base (.ins h ic.cl ic.ha ic.hn ic.tk ic.hm)
theorem de_isO {x : Str} {pT : Pos} (hcn : c.cm n = some C) (ic : IsC X.K C) (hm : X.mg "isinstance" = none) (hg : Gl X "isinstance") (gC : Gl X x) (mC : X.mg x = some (.ref C)) (ha : PE X e (tR c G f)) (hK : c.K = X.K := by rfl) (hd : (x == ("__debug__" : Str)) = false := by decide)
    (hs1 : starEach [e, .Name x pT] X.env = (false, eval e X.env) :: starEach [.Name x pT] X.env := by rfl) (hs2 : starEach [.Name x pT] X.env = (false, eval (.Name x pT) X.env) :: starEach [] X.env := by rfl) (hpl : (backTo pos (starEach [.Name x pT] X.env)).any (·.1) = false := by rfl) :
    PE X (.Call (.Name "isinstance" p) [e, .Name x pT] [] pos) (tV c G (dUn (isiO n) f)) := by
  have hT : PE X (.Name x pT) (tC (.ref C)) := pe_glob gC mC rfl hd
  refine pe_imp (pe_callB call_isi hg hm (by decide +kernel) (pa_cons ha (pa_cons hT pa_nil hs2) hs1) (he := hs1) (hpl := hpl)) fun σ H Q ⟨S0, H0, S, r, ok, p⟩ => rd_seq ok p fun d v S1 H1 w1 o1 m1 p1 => ?_
  unfold isiO at p1
  split at p1
  · rename_i hc
    obtain ⟨q, dx, gs, rfl, h2⟩ := of_isCls o1.ex hcn hc m1
    exact ⟨.ref q, .ref C, .ref C, .ref C, true, rfl, .own C, ty_ins ic h2, ic.self, p1.go o1.ex _ (.bl _)⟩
  · split at p1
    · rename_i t ht
      exact ⟨v, .ref C, .type t, .ref C, false, rfl, .own C, by rw [← hK]; exact RpB.ty m1 o1.ex ht, ic.no t (tyN_all ht), p1.go o1.ex _ (.bl _)⟩
    · exact p1.elim
def keyD : D → Option Key
  | .int i => some (.inl i)
  | .str z => some (.inr z)
  | _ => none
def keyOf : Key → D
  | .inl i => .int i
  | .inr z => .str z
def getK {κ : Type} [DecidableEq κ] : List κ → List D → κ → Option D
  | k :: ks, v :: vs, x => if k = x then some v else getK ks vs x
  | _, _, _ => none
def putV {κ : Type} [DecidableEq κ] (ks : List κ) (vs : List D) (x : κ) (d : D) : List κ × List D := if (ks.any fun k => decide (k = x)) = true then (ks, List.zipWith (fun k v => if k = x then d else v) ks vs) else (ks ++ [x], vs ++ [d])
/-- {} -/
def dD0 : Rho → Res D := fun _ => .ok (.dk [] [])
/-- k in d -/
def inK (neg : Bool) : D → D → Res D
  | k, .dk ks vs => match keyD k with
    | some x => .ok (.bl (if neg then !(getK ks vs x).isSome else (getK ks vs x).isSome))
    | none => .bad
  | _, _ => .bad
/-- list(d), len(d) -/
def listK : D → Res D
  | .dk ks _ => .ok (.lst (ks.map keyOf))
  | _ => .bad
def lenK : D → Res D
  | .dk ks _ => .ok (.int ks.length)
  | .dt ks _ => .ok (.int ks.length)
  | _ => .bad
/-- d[k] = v, d an own dict -/
def ownK (i : Nat) (r : Rho) : Res (List Key × List D) := match r[i]? with
  | some (some (.dk ks vs)) => .ok (ks, vs)
  | _ => .bad
def asK (d : D) : Res Key := match keyD d with
  | some k => .ok k
  | none => .bad
noncomputable def putF (i : Nat) (fk f : Rho → Res D) : Rho → SR := fun r => liftS r (f r) fun d => liftS r (ownK i r) fun o => liftS r (fk r) fun k => liftS r (asK k) fun x => guardS (o.1.length < sizeLine) (.nx (r.set i (some (.dk (putV o.1 o.2 x d).1 (putV o.1 o.2 x d).2))))
end
end Dx
end S_DxR
section S_DxI
set_option Elab.async false
set_option linter.all false
set_option maxRecDepth 100000
set_option maxHeartbeats 2000000
namespace Dx
open PySem L2 ItX PyProof.Rows
section
variable {X : Cx} {c : Cf} {L G G' : List Ow} {a b e : Expr} {pos : Pos} {f f1 f2 : Rho → Res D} {k : Nat}
def keysD : List D → Option (List Key)
  | [] => some []
  | d :: ds => match keyD d, keysD ds with
    | some k, some ks => some (k :: ks)
    | _, _ => none
def keyT : D → Option (List Key)
  | .tup ds => keysD ds
  | _ => none
def tupOf (ks : List Key) : D := .tup (ks.map keyOf)
theorem key_rp {K : PySem.W.Frag} {cm : CM} {S : Hp} : ∀ ks : List Key, RpA K cm S (ks.map kV) (ks.map keyOf)
  | [] => .nil
  | k :: ks => .cons (by cases k with | inl i => exact .int i | inr z => exact .str z) (key_rp ks)
/-- a tuple of the heap becomes one that stays -/
theorem Fwd.tup {S H : Hp} (e : Ex S H) {q : Addr} {xs : List V} (h : H q = some (.tup xs)) : ∃ S', Fwd S H S' H ∧ S' q = some (.tup xs) := by
  cases hs : S q with
  | some o =>
    have := e.same hs h (fun _ z => by cases z)
    subst this
    exact ⟨S, Fwd.refl e, hs⟩
  | none =>
    refine ⟨upd S q (.tup xs), ⟨Ex.new hs, Ex.refl, fun a u ha => ?_, fun a u ha m => ?_, Tk.refl⟩, upd_same⟩
    · by_cases hh : a = q
      · subst hh; rw [upd_same] at ha; exact .mk (by rw [h]; exact ha)
      · rw [upd_ne hh] at ha; exact e a u ha
    · by_cases hh : a = q
      · subst hh; exact .inr ⟨xs, h⟩
      · rw [upd_ne hh, m] at ha; cases ha
theorem Fwd.tups {H : Hp} : ∀ {S : Hp} {kvs : List (List Key × V)} {bs : List Addr} {K : PySem.W.Frag} {cm : CM}, Ex S H → IsKeys H kvs bs → ∃ S', Fwd S H S' H ∧ RpA K cm S' (bs.map V.ref) (kvs.map fun p => tupOf p.1)
  | S, [], [], _, _, e, _ => ⟨S, Fwd.refl e, .nil⟩
  | S, [], _ :: _, _, _, e, h => nomatch h
  | S, _ :: _, [], _, _, e, h => nomatch h
  | S, p :: kvs, b :: bs, K, cm, e, h => by
    cases h with
    | cons h1 h2 =>
      obtain ⟨S1, f1, g1⟩ := Fwd.tup e h1
      obtain ⟨S2, f2, g2⟩ := Fwd.tups (K := K) (cm := cm) f1.sub h2
      exact ⟨S2, f1.trans f2, .cons (.tup (f2.s _ _ g1) (key_rp _)) g2⟩
def itemsK : D → Res (List D)
  | .dt ks _ => .ok (ks.map tupOf)
  | .dk ks _ => .ok (ks.map keyOf)
  | _ => .bad
variable {tg : Expr}
def revL : D → Res D
  | .lst ds => .ok (.lst ds.reverse)
  | _ => .bad
theorem RpA.rev {K : PySem.W.Frag} {cm : CM} {S : Hp} : ∀ {vs : List V} {ds : List D}, RpA K cm S vs ds → RpA K cm S vs.reverse ds.reverse
  | _, [], h => by cases h; exact .nil
  | _, d :: ds, h => by
    cases h with | @cons v vs _ _ hd hr =>
    rw [List.reverse_cons, List.reverse_cons]
    exact (RpA.rev hr).app (.one hd)
theorem de_revL {kk : Nat} {p1 p2 p3 : Pos} (he : PE X e (tR c G f)) (hK : c.K = X.K := by rfl) : PE X (.Subscript e (.Slice none none (some (.UnaryOp .USub (.Constant (.int 1) kk p1) p2)) p3) pos) (tO c G (dUn revL f)) :=
  pe_imp (pe_revL he) fun σ H Q ⟨S0, H0, S, r, ok, p⟩ => rd_seq ok p fun d v S1 H1 w1 o1 m1 p1 => by
    cases d with
    | lst ds =>
      obtain ⟨q, xs, rfl, h1, h2⟩ := RpB.list m1 o1.ex
      exact ⟨q, xs, rfl, .inl (.inl h1), fun q hq => (p1.anti w1.h).kept o1.ex hq (.lst h2.rev)⟩
    | _ => exact p1.elim
end
end Dx
end S_DxI
section S_DxJ
set_option Elab.async false
set_option linter.all false
set_option maxRecDepth 100000
set_option maxHeartbeats 2000000
namespace Dx
open PySem L2 ItX PyProof.Rows
theorem tyAll_of {p : String → Prop} (h1 : p "NoneType") (h2 : p "bool") (h3 : p "int") (h4 : p "str") (h5 : p "list") (h6 : p "tuple") (h7 : p "dict") : ∀ t ∈ tyAll, p t := fun t ht => by
  simp only [tyAll, List.mem_cons, List.not_mem_nil, or_false] at ht
  rcases ht with rfl | rfl | rfl | rfl | rfl | rfl | rfl <;> assumption
/-- a def of the text, whatever its defaults are -/
structure FunE (K : PySem.W.Frag) (x qual : Str) (st : Stmt) (f : Addr) (fd : FuncData) : Prop where
  ex : ∃ (oc : Value) (od : Option Addr) (dV kV doc pm : Value) (an : Option Addr) (cdv ct : Value) (osl : Array (Option Value)),
    fd = PySem.W.fnOf x qual (defArgs st) (defBody st) (defScope st) dV kV doc pm an cdv ct ∧ K.lookup f = some ⟨oc, od, .func fd, osl⟩ ∧ PySem.W.codeIn K cdv qual = true
  kp : PySem.W.keepIn K (.ref f) = true
section
variable {P : Program} {w : World} {K : PySem.W.Frag} {mg : Str → Option Value} {base : Heap} {cm : CM}
theorem FunE.okN {x qual : Str} {st : Stmt} {f : Addr} {fd : FuncData} {N ps : List Str} {k : Nat} {sp : Sp} (F : FunE K x qual st f fd) (S : FnScope N ps (defScope st)) (len : ∀ vs H Q E, sp vs H Q E → vs.length = ps.length)
    (hbody : ∀ (cdv : Value) (A : Around) (outer : List Env) (s : Shared) (H : Hp) (vs : List V) (Q : VK) (E : XK), Room k (A.deeper (envOfC qual (defScope st) s.heap.objs.size f cdv)) → sp vs H Q E →
      ∃ t, PSs (cxOf (L2N.CX P w) P w K mg base N qual (defScope st) f cdv A outer s H E) (defBody st) t ∧ t { nx := fun _ H' => Q .non H', rt := Q } (start N vs) H) : FnOk P w K mg base (L2N.CX P w) (k + 1) f fd ps sp := by
  obtain ⟨oc, od, dV, kV, doc, pm, an, cdv, ct, osl, rfl, lk, hcd⟩ := F.ex
  exact fn_of lk hcd S len fun A outer s H vs Q E hr hsp => hbody cdv A outer s H vs Q E hr hsp
theorem funE_mk {x qual : Str} {st : Stmt} {f : Addr} {oc : Value} {od an : Option Addr} {osl : Array (Option Value)} {dV kV doc pm cdv ct : Value} (l : K.lookup f = some ⟨oc, od, .func (PySem.W.fnOf x qual (defArgs st) (defBody st) (defScope st) dV kV doc pm an cdv ct), osl⟩)
    (c : PySem.W.codeIn K cdv qual = true) (k : PySem.W.keepIn K (.ref f) = true) : FunE K x qual st f (PySem.W.fnOf x qual (defArgs st) (defBody st) (defScope st) dV kV doc pm an cdv ct) :=
  ⟨⟨oc, od, dV, kV, doc, pm, an, cdv, ct, osl, rfl, l, c⟩, k⟩
/-- n values are written, the defaults behind the first j fill up -/
theorem binds_d {fd : FuncData} {T : Addr} {o : Obj} {its : List Value} {m : Nat} {ps : List Str} (n j : Nat) (lT : K.lookup T = some o) (oT : o.data = .seq its.toArray m) (hm : n + (its.length - j) = ps.length)
    (h : ∀ us : List Value, us.length = n → ∃ k, bindArgs fd ⟨us, []⟩ = seqItems? (.ref T) >>= k ∧ k (some its.toArray) = pure (ps.zip (us ++ its.drop j))) : L2.Binds K fd ps (its.drop j) := fun s us X hl => by
  obtain ⟨k, e1, e2⟩ := h us (by rw [List.length_append, List.length_drop] at hl; omega)
  refine BindsTo.of_looks fun M => ?_
  rw [e1]
  exact looks_items X lT oT (.of_pure e2)
/-- THE RULE for an __init__ with defaults -/
theorem dokIE {x qual : Str} {st : Stmt} {f C : Addr} {fd : FuncData} {N ps : List Str} {k : Nat} {ms : List Bool} {n : Str} {Fb : Rho → SR} (F : FunE K x qual st f fd) (S : FnScope N ps (defScope st)) (hcn : cm n = some C) (hm : ms.length + 1 = ps.length) (hn : ps.length ≤ N.length)
    {G' : Addr → List Ow} (hG : ∀ a, kd (G' a) 0 = .i a)
    (hb : ∀ (cdv : Value) (A : Around) (outer : List Env) (s : Shared) (H : Hp) (E : XK) (a : Addr), Room k (A.deeper (PyProof.Rows.envOfC qual (defScope st) s.heap.objs.size f cdv)) →
      PSs (cxOf (L2N.CX P w) P w K mg base N qual (defScope st) f cdv A outer s H E) (defBody st) (sD (cfE K cm false E) [] (GI a ms N.length) (G' a) Fb)) :
    FnOk P w K mg base (L2N.CX P w) (k + 1) f fd ps (spI K cm C ms (runI N.length n Fb)) := by
  refine F.okN S (fun vs H Q E h => ?_) (fun cdv A outer s H vs Q E hr h => ?_)
  · obtain ⟨x, dx, H1, S, us, ds, rfl, _, _, _, _, _, m, _⟩ := h
    rw [List.length_cons, m.len.1, hm]
  · obtain ⟨x, dx, H1, S, us, ds, rfl, hx, hdx, hne, rfl, ex, m, q⟩ := h
    refine ⟨_, hb cdv A outer s _ E x hr, S, H1, S, startI N.length n ds, env_startI (c := cfE K cm false E) hcn ex (RpM.cf (c := ⟨K, cm, fun _ _ _ _ => False, none, true, fun _ _ => False⟩) (c' := cfE K cm false E) rfl rfl m) (by omega) hx hdx hne, ?_⟩
    unfold runI at q
    cases hF : Fb (startI N.length n ds) with
    | rt d => rw [hF] at q; exact q.elim
    | nx r =>
      rw [hF] at q
      dsimp only at q
      intro σ' S' H' ok
      split at q
      · rename_i d hd
        obtain ⟨v, h1, h2⟩ := ok.slot 0 d hd
        rw [hG x] at h2
        obtain ⟨rfl, p, ho, e1, e2, e3, e4, e5⟩ := h2
        cases e1
        exact q S' H' ok.fwd ⟨ho, e3, e2, e5⟩
      · exact q.elim
    | er r n ns vs =>
      rw [hF] at q
      exact fun C dd σ' S' H' fs h1 fw _ h2 h3 h4 => q C dd S' H' fs h1 fw h2 h3 h4
    | bk r => rw [hF] at q; exact q.elim
    | ct r => rw [hF] at q; exact q.elim
    | bad => rw [hF] at q; exact q.elim
end
section
variable {X : Cx} {c : Cf} {L G G' : List Ow} {f f1 : Rho → Res D} {e o : Expr} {es : List Expr} {pos apos p : Pos}
variable {k : Nat} {fa : Addr} {fd : FuncData} {ps : List Str} {ms : List Bool} {rm : Bool} {F : List D → Res D}
/-- C(), the defaults fill up -/
theorem de_make0 {x : Str} {C : Addr} {dvs : List V} {us : List Value} {ds0 : List D} (M : Mk X.K C fa) (F1 : FnOk X.prog X.w X.K X.mg X.base (L2N.CX X.prog X.w) k fa fd ps (spI c.K c.cm C ms F)) (tk : L2N.Takes X c.W) (hr : Room (k + 1) X.A) (hg : Gl X x) (hm : X.mg x = some (.ref C)) (hb : L2.Binds X.K fd ps us)
    (hd : Vals dvs us) (hv : ∀ S H, RpM c S H ms dvs ds0) (hdb : (x == ("__debug__" : Str)) = false := by decide) : PE X (.Call (.Name x p) [] [] pos) (tO c G (fun _ => F ds0)) :=
  pe_imp (pe_makeSD0 (dvs := dvs) (E := fun σ cls d H => c.W cls d σ H) M F1 hr hg hm hb hd (fun σ => L2N.passAt tk σ) hdb) fun σ H Q ⟨S0, H0, S, r, ok, q⟩ => fun x dx hx hdx hne => make_rd (fun _ _ _ h => h) ok.ex (hv S H) hx hdx hne q
/-- a borrowed list or tuple: a parameter's slot -/
def itemsX : D → Res (List D)
  | .lst ds => .ok ds
  | .fz ds => .ok ds
  | .kt ds => .ok ds
  | .tup ds => .ok ds
  | _ => .bad
variable {tg : Expr}
theorem pi_or {it : Expr} {t t' : TI} (h : PI X tg it t) (h' : PI X tg it t') : PI X tg it (fun σ H R => t σ H R ∨ t' σ H R) := ⟨fun pins s σ H R I q => q.elim (h.run pins s σ H R I) (h'.run pins s σ H R I)⟩
theorem di_borX (i : Nat) {x : Str} (he : PE X (.Name x pos) (tVar i)) (k : kd G i = .b) (hK : c.K = X.K := by rfl) : PI X tg (.Name x pos) (iD c G (dIt itemsX (dVar i))) := pi_imp (pi_or (pi_list he) (pi_tup he)) fun σ H R ⟨S0, H0, S, r, ok, p⟩ => by
  obtain ⟨d, hd, p⟩ := of_dVar (p.unbind)
  obtain ⟨v, h1, h2⟩ := ok.slot i d hd
  rw [k] at h2
  have p1 := p.go ok.ex
  rw [← hK]
  cases d with
  | lst ds =>
    refine .inl ⟨v, h1, ?_⟩
    rcases h2 with h2 | ⟨q, ho, rfl, h3, h4⟩
    · cases h2 with | @lst q xs _ h rr =>
      exact ⟨q, rfl, ⟨xs, .inl (.inl (ok.ex _ _ h))⟩, p1.go ok.ex _ (gives_list (.inl (.inl h)) rr)⟩
    · cases h4 with | @lst xs _ rr =>
      refine ⟨q, rfl, ⟨xs, .inl (.inl (ok.fwd.h _ _ h3))⟩, p1.go ok.ex _ ⟨_, _, by rw [← rr.length]; exact walk_list (K := c.K) (a := q) (xs := xs), fun S'' H'' e1 e2 e3 => show SqL c.K H'' q xs from .inl (.inl (e3 _ _ h3)), fun i S1 H1 x H2 hi e1 e2 y => ?_⟩⟩
      obtain ⟨rfl, hx⟩ := y
      obtain ⟨d, h1, h2⟩ := rr.getV hx
      exact ⟨S1, d, Fwd.refl e2, h1, h2.mono e1⟩
  | fz ds =>
    refine .inl ⟨v, h1, ?_⟩
    rcases h2 with h2 | ⟨q, ho, rfl, h3, h4⟩
    · cases h2 with | @fz q xs _ h rr =>
      exact ⟨q, rfl, ⟨xs, ok.ex.l h⟩, p1.go ok.ex _ (gives_list h rr)⟩
    · cases h4
  | kt ds =>
    refine .inr ⟨v, h1, ?_⟩
    rcases h2 with h2 | ⟨q, ho, rfl, h3, h4⟩
    · cases h2 with | @kt q xs _ h rr =>
      exact ⟨q, rfl, ⟨xs, ok.ex.t h⟩, p1.go ok.ex _ (gives_tup h rr)⟩
    · cases h4
  | tup ds =>
    refine .inr ⟨v, h1, ?_⟩
    rcases h2 with h2 | ⟨q, ho, rfl, h3, h4⟩
    · cases h2 with | @tup q xs _ h rr =>
      exact ⟨q, rfl, ⟨xs, .inl (.inl (ok.ex _ _ h))⟩, p1.go ok.ex _ (gives_tup (.inl (.inl h)) rr)⟩
    · cases h4
  | _ => exact p1.elim
/-- the written () as a default -/
theorem kt_nil {K : PySem.W.Frag} {cm : CM} {E : Addr} {oc : Value} {od : Option Addr} {n : Nat} {sl : Array (Option Value)} (l : K.lookup E = some ⟨.type "tuple", od, .seq #[] n, sl⟩) (S : Hp) : Rp K cm S (.ref E) (.kt []) :=
  .kt (.inr ⟨_, #[], n, l, rfl, rfl, by rw [sizeLine_eq]; decide, .nil⟩) .nil
end
end Dx
end S_DxJ
section S_DxH
set_option Elab.async false
set_option linter.all false
set_option maxRecDepth 100000
set_option maxHeartbeats 4000000
namespace Dx
open PySem L2 PyProof.Rows Srt SrtO
abbrev T3 := Int × Int × Int
section
variable {prog : Program} {w : World} {A : Around} {E : Value → Shared → Prop} {s : Shared}
/-- v is a tuple of three ints in the heap -/
def IsTri (h : Heap) (v : Value) (k : T3) : Prop := ∃ a o t u v' n, v = .ref a ∧ h.get? a = some o ∧ o.cls = .type "tuple" ∧ o.data = .seq #[.int k.1 t, .int k.2.1 u, .int k.2.2 v'] n
theorem IsTri.keeps {h h' : Heap} {v : Value} {k : T3} (p : IsTri h v k) (kk : ∀ b o, h.get? b = some o → o.cls = .type "tuple" → h'.get? b = some o) : IsTri h' v k := by
  obtain ⟨a, o, t, u, z, n, e, ho, hc, hd⟩ := p
  exact ⟨a, o, t, u, z, n, e, kk _ _ ho hc, hc, hd⟩
def lex3 (p q : T3) : Bool := if p.1 = q.1 then (if p.2.1 = q.2.1 then decide (p.2.2 < q.2.2) else decide (p.2.1 < q.2.1)) else decide (p.1 < q.1)
end
abbrev ltT (k : V → T3) (x y : V) : Bool := lex3 (k x) (k y)
end Dx
end S_DxH
section S_DxL
set_option Elab.async false
set_option linter.all false
set_option maxRecDepth 100000
set_option maxHeartbeats 4000000
namespace Dx
open PySem L2
section
variable {X : Cx} {c : Cf} {G G' G2 : List Ow} {S0 H0 S H S' H' : Hp} {σ : St} {r : Rho}
def isVB : Ow → Bool
  | .v => true
  | .b => true
  | _ => false
def noOwn (G : List Ow) : Prop := ∀ i, isVB (kd G i) = true
theorem noOwn_of {G : List Ow} (h : G.all isVB = true) : noOwn G := fun i => by
  unfold kd
  rw [List.getD_eq_getElem?_getD]
  cases e : G[i]? with
  | none => rfl
  | some k => exact List.all_eq_true.mp h k (List.mem_of_getElem? e)
/-- where nothing is own, only what stays counts -/
theorem EnvOk.jump (e : EnvOk c S0 H0 G S H σ r) (hno : noOwn G) (es : Ex S S') (fw : Fwd S0 H0 S' H') : EnvOk c S0 H0 G S' H' σ r := by
  refine ⟨fw, e.len, fun i d hd => ?_, fun i j d d' p hi hj ki kj si sj => e.sep i j d d' p hi hj ki kj si sj, [], ⟨.nil, fun a ha => (nomatch ha), fun i d p _ _ _ => (fun h => nomatch h), fun i k M P ki hi => ?_, fun i k ki hi => ?_, e.tab0⟩⟩
  · obtain ⟨v, h1, h2⟩ := e.slot i d hd
    refine ⟨v, h1, ?_⟩
    have := hno i
    cases k : kd G i with
    | v => rw [k] at h2; exact Rp.mono es h2
    | b => rw [k] at h2; exact RpB.mono h2 es Ex.refl
    | _ => rw [k] at this; cases this
  · have := hno i
    rw [ki] at this; cases this
  · have := hno i
    rw [ki] at this; cases this
def lc2Loop (t : D → Rho → Res Rho) (tt : Rho → Res Bool) (its1 : Rho → Res (List D)) (t1 : D → Rho → Res Rho) (tt1 : Rho → Res Bool) (fe : Rho → Res D) (vs1 : List Nat) (rw : Rho) : List D → Res (List D)
  | [] => .ok []
  | d :: ds => match t d rw with
    | .ok r1 => match tt r1 with
      | .ok true => match its1 r1 with
        | .ok ds1 => match lcLoop t1 tt1 fe (wipeR r1 vs1) ds1 with
          | .ok xs => match lc2Loop t tt its1 t1 tt1 fe vs1 rw ds with
            | .ok ys => .ok (xs ++ ys)
            | _ => .bad
          | _ => .bad
        | _ => .bad
      | .ok false => lc2Loop t tt its1 t1 tt1 fe vs1 rw ds
      | _ => .bad
    | _ => .bad
noncomputable def dLc2 (its : Rho → Res (List D)) (t : D → Rho → Res Rho) (tt : Rho → Res Bool) (its1 : Rho → Res (List D)) (t1 : D → Rho → Res Rho) (tt1 : Rho → Res Bool) (fe : Rho → Res D) (vs vs1 : List Nat) : Rho → Res D := fun r => (its r).bind fun ds => match lc2Loop t tt its1 t1 tt1 fe vs1 (wipeR r vs) ds with
  | .ok xs => guard (xs.length ≤ sizeLine) (.ok (.lst xs))
  | _ => .bad
theorem wipe2 {σ : St} {vs : List Nat} : L2.wipe (L2.wipe σ vs) vs = L2.wipe σ vs := by
  apply List.ext_getElem?
  intro k
  rw [wipe_get, wipe_get]
  split
  · cases σ[k]? <;> rfl
  · rfl
theorem lc2_rd {its : Rho → Res (List D)} {t : D → Rho → Res Rho} {tt : Rho → Res Bool} {its1 : Rho → Res (List D)} {t1 : D → Rho → Res Rho} {tt1 : Rho → Res Bool} {fe : Rho → Res D} {vs vs1 : List Nat} (hno : noOwn G') : ∀ σ H Q, tO c G (dLc2 its t tt its1 t1 tt1 fe vs vs1) σ H Q →
    tLc2 (iDl c G its) (gD c.calm G G' vs t) (tT c.calm G' tt) (iD c.calm G' its1) (gD c.calm G' G2 vs1 t1) (tT c.calm G2 tt1) (tV c.calm G2 fe) vs vs1 σ H Q := fun σ H Q ⟨S0, H0, S, r, ok, p⟩ => by
  refine ⟨S0, H0, S, r, ok, p.unbind.imp fun ds S1 H1 w1 p1 J gv Dl hD => ?_⟩
  obtain ⟨Gd, Y, wk, hG, hY⟩ := gv
  have ok1 := ok.go w1
  split at p1
  · rename_i res hres
    obtain ⟨hl, p1⟩ := p1.gd
    have okw := ok1.wiped vs
    have nS : S1 Dl = none := ok1.ex.nn hD
    refine ⟨fun i m H' => m = ds.length - i ∧ i ≤ ds.length ∧ ∃ S' acc accD rest, Fwd S1 H1 S' H' ∧ S' Dl = none ∧ H' Dl = some (.lst acc) ∧ RpA c.K c.cm S' acc accD ∧ lc2Loop t tt its1 t1 tt1 fe vs1 (wipeR r vs) (ds.drop i) = .ok rest ∧ accD ++ rest = res,
      ⟨ds.length, by omega, by omega, S1, [], [], res, Fwd.heap ok1.ex hD, nS, upd_same, .nil, by rw [List.drop_zero]; exact hres, rfl⟩, ?_⟩
    rintro i m H' ⟨rfl, hi, S', acc, accD, rest, fw, n1, h1, r1, hr, ha⟩
    have gd := hG S' H' fw.s fw.sub fw.h
    by_cases hlt : i < ds.length
    · refine .inr ⟨wk.goes i H' hlt gd, fun H'' => i + 1 ≤ ds.length ∧ ∃ S' acc accD rest, Fwd S1 H1 S' H'' ∧ S' Dl = none ∧ H'' Dl = some (.lst acc) ∧ RpA c.K c.cm S' acc accD ∧ lc2Loop t tt its1 t1 tt1 fe vs1 (wipeR r vs) (ds.drop (i + 1)) = .ok rest ∧ accD ++ rest = res,
        fun H'' z => ⟨ds.length - (i + 1), by omega, rfl, z.1, z.2⟩, fun x H2 y => ?_⟩
      obtain ⟨S2, d, fw2, hd, hx⟩ := hY i S' H' x H2 hlt fw.s fw.sub (wk.yields i H' x H2 hlt gd y)
      have hdrop : ds.drop i = d :: ds.drop (i + 1) := by
        rw [List.drop_eq_getElem_cons hlt]
        rw [List.getElem?_eq_getElem hlt] at hd
        cases hd; rfl
      rw [hdrop] at hr
      unfold lc2Loop at hr
      refine ⟨S0, H0, S2, wipeR r vs, d, okw.go (fw.trans fw2), hx, ?_⟩
      cases ht : t d (wipeR r vs) with
      | err _ _ _ => rw [ht] at hr; cases hr
      | bad => rw [ht] at hr; cases hr
      | ok r2 =>
        rw [ht] at hr
        dsimp only at hr
        intro σ3 z3 ok3
        have keepN : ∀ S4 H4, Fwd S' H' S4 H4 → S4 Dl = none := fun S4 H4 f4 => by
          cases q : S4 Dl with
          | none => rfl
          | some u => obtain ⟨_, z⟩ := (f4.new Dl u q n1).not h1; cases z
        refine ⟨z3.trans wipe2, S0, H0, S2, r2, ok3, ?_⟩
        cases htt : tt r2 with
        | err _ _ _ => rw [htt] at hr; cases hr
        | bad => rw [htt] at hr; cases hr
        | ok b =>
          rw [htt] at hr
          intro S4 H4 w4 b' hb
          cases hb
          have f4 := fw2.trans w4
          cases b with
          | false =>
            dsimp only at hr
            rw [if_neg (by decide)]
            exact ⟨hlt, S4, acc, accD, rest, fw.trans f4, keepN S4 H4 f4, f4.h _ _ h1, r1.mono f4.s, hr, ha⟩
          | true =>
            dsimp only at hr
            rw [if_pos rfl]
            have ok4 := ok3.go w4
            refine ⟨S0, H0, S4, r2, ok4, ?_⟩
            cases hit : its1 r2 with
            | err _ _ _ => rw [hit] at hr; cases hr
            | bad => rw [hit] at hr; cases hr
            | ok ds1 =>
              rw [hit] at hr
              dsimp only at hr
              cases hin : lcLoop t1 tt1 fe (wipeR r2 vs1) ds1 with
              | err _ _ _ => rw [hin] at hr; cases hr
              | bad => rw [hin] at hr; cases hr
              | ok xs1 =>
                rw [hin] at hr
                dsimp only at hr
                cases hout : lc2Loop t tt its1 t1 tt1 fe vs1 (wipeR r vs) (ds.drop (i + 1)) with
                | err _ _ _ => rw [hout] at hr; cases hr
                | bad => rw [hout] at hr; cases hr
                | ok ys =>
                  rw [hout] at hr
                  cases hr
                  intro S5 H5 w5 J1 gv1
                  have f5 := f4.trans w5
                  obtain ⟨Gd1, Y1, wk1, hG1, hY1⟩ := gv1
                  refine ⟨fun j k H' => k = ds1.length - j ∧ j ≤ ds1.length ∧ ∃ S' acc accD rest1, Fwd S1 H1 S' H' ∧ Ex S5 S' ∧ S' Dl = none ∧ H' Dl = some (.lst acc) ∧ RpA c.K c.cm S' acc accD ∧ lcLoop t1 tt1 fe (wipeR r2 vs1) (ds1.drop j) = .ok rest1 ∧ accD ++ (rest1 ++ ys) = res,
                    ⟨ds1.length, by omega, by omega, S5, acc, accD, xs1, fw.trans f5, Ex.refl, keepN S5 H5 f5, f5.h _ _ h1, r1.mono f5.s, by rw [List.drop_zero]; exact hin, ha⟩, ?_⟩
                  rintro j k H6 ⟨rfl, hj, S6, acc6, accD6, rest6, g1, g2, g3, g4, g5, g6, g7⟩
                  have e06 : Ex H0 H6 := ok1.fwd.h.trans g1.h
                  have gd1 := hG1 S6 H6 g2 g1.sub e06
                  by_cases hjl : j < ds1.length
                  · refine .inr ⟨wk1.goes j H6 hjl gd1, fun H' => j + 1 ≤ ds1.length ∧ ∃ S' acc accD rest1, Fwd S1 H1 S' H' ∧ Ex S5 S' ∧ S' Dl = none ∧ H' Dl = some (.lst acc) ∧ RpA c.K c.cm S' acc accD ∧ lcLoop t1 tt1 fe (wipeR r2 vs1) (ds1.drop (j + 1)) = .ok rest1 ∧ accD ++ (rest1 ++ ys) = res,
                      fun H' z => ⟨ds1.length - (j + 1), by omega, rfl, z.1, z.2⟩, fun x1 H7 y1 => ?_⟩
                    obtain ⟨S7, d1, fw7, hd1, hx1⟩ := hY1 j S6 H6 x1 H7 hjl g2 g1.sub (wk1.yields j H6 x1 H7 hjl gd1 y1)
                    have hdrop1 : ds1.drop j = d1 :: ds1.drop (j + 1) := by
                      rw [List.drop_eq_getElem_cons hjl]
                      rw [List.getElem?_eq_getElem hjl] at hd1
                      cases hd1; rfl
                    rw [hdrop1] at g6
                    unfold lcLoop at g6
                    have keep1 : ∀ S8 H8, Fwd S6 H6 S8 H8 → S8 Dl = none := fun S8 H8 f8 => by
                      cases q : S8 Dl with
                      | none => rfl
                      | some u => obtain ⟨_, z⟩ := (f8.new Dl u q g3).not g4; cases z
                    have ok7 : EnvOk c.calm S0 H0 G' S7 H7 σ3 r2 := EnvOk.jump ok4 hno ((w5.s.trans g2).trans fw7.s) (ok1.fwd.trans (g1.trans fw7))
                    refine ⟨S0, H0, S7, wipeR r2 vs1, d1, ok7.wiped vs1, hx1, ?_⟩
                    cases ht1 : t1 d1 (wipeR r2 vs1) with
                    | err _ _ _ => rw [ht1] at g6; cases g6
                    | bad => rw [ht1] at g6; cases g6
                    | ok r3 =>
                      rw [ht1] at g6
                      dsimp only at g6
                      intro σ4 z4 ok8
                      refine ⟨z4.trans wipe2, S0, H0, S7, r3, ok8, ?_⟩
                      cases htt1 : tt1 r3 with
                      | err _ _ _ => rw [htt1] at g6; cases g6
                      | bad => rw [htt1] at g6; cases g6
                      | ok b1 =>
                        rw [htt1] at g6
                        intro S8 H8 w8 b2 hb2
                        cases hb2
                        have f8 := fw7.trans w8
                        cases b1 with
                        | false =>
                          dsimp only at g6
                          rw [if_neg (by decide)]
                          exact ⟨hjl, S8, acc6, accD6, rest6, g1.trans f8, g2.trans f8.s, keep1 S8 H8 f8, f8.h _ _ g4, g5.mono f8.s, g6, g7⟩
                        | true =>
                          dsimp only at g6
                          rw [if_pos rfl]
                          refine ⟨S0, H0, S8, r3, ok8.go w8, ?_⟩
                          cases hfe : fe r3 with
                          | err _ _ _ => rw [hfe] at g6; cases g6
                          | bad => rw [hfe] at g6; cases g6
                          | ok x2 =>
                            rw [hfe] at g6
                            dsimp only at g6
                            cases hlc : lcLoop t1 tt1 fe (wipeR r2 vs1) (ds1.drop (j + 1)) with
                            | err _ _ _ => rw [hlc] at g6; cases g6
                            | bad => rw [hlc] at g6; cases g6
                            | ok xs2 =>
                              rw [hlc] at g6
                              cases g6
                              intro S9 H9 w9 y9 hy9
                              have f9 := f8.trans w9
                              refine ⟨acc6, f9.h _ _ g4, ?_, hjl, S9, acc6 ++ [y9], accD6 ++ [x2], xs2, (g1.trans f9).put hD (keep1 S9 H9 f9) (Tk.at (f9.h _ _ g4) .lst), g2.trans f9.s, keep1 S9 H9 f9, upd_same, (g5.mono f9.s).app (.one hy9), rfl, ?_⟩
                              · rw [g5.length]
                                have : accD6.length + 1 ≤ res.length := by rw [← g7]; simp only [List.length_append, List.length_cons]; omega
                                omega
                              · rw [← g7, List.append_assoc]; rfl
                  · have e : j = ds1.length := by omega
                    subst e
                    rw [List.drop_length] at g6
                    cases g6
                    exact .inl ⟨wk1.stops H6 gd1, hlt, S6, acc6, accD6, ys, g1, g3, g4, g5, rfl, g7⟩
    · have e : i = ds.length := by omega
      subst e
      rw [List.drop_length] at hr
      cases hr
      rw [List.append_nil] at ha
      subst ha
      exact .inl ⟨wk.stops H' gd, p1 S' H' fw _ ⟨Dl, .lst acc, rfl, w1.h.nn hD, n1, h1, .lst r1⟩⟩
  · exact p1.elim
theorem de_lc2 {elt tg iter tg1 iter1 : Expr} {ifs ifs1 : List Expr} {scope : Scope} {own : List (Str × Nat)} {vs1 : List Nat} {pos : Pos} {its : Rho → Res (List D)} {t : D → Rho → Res Rho} {tt : Rho → Res Bool} {its1 : Rho → Res (List D)} {t1 : D → Rho → Res Rho} {tt1 : Rho → Res Bool} {fe : Rho → Res D}
    (hc : X.calm = true) (hN : X.N.Nodup) (hno : noOwn G') (hi : PI X tg iter (iD c G its)) (ok : BlkOk X.N X.env.scope scope own) (hv : ∀ i ∈ vs1, i ∈ own.map (·.2))
    (hg : ∀ (s : Shared) (H : Hp) (C : Addr) (cl : List (Str × Addr)) (fp : List Addr), PG (X.blk s H scope (compEnvC scope cl C X.env) fp) tg (gD c.calm G G' (own.map (·.2)) t)) (ht : ∀ (s : Shared) (H : Hp) (C : Addr) (cl : List (Str × Addr)) (fp : List Addr), PTs (X.blk s H scope (compEnvC scope cl C X.env) fp) ifs (tT c.calm G' tt))
    (hi1 : ∀ (s : Shared) (H : Hp) (C : Addr) (cl : List (Str × Addr)) (fp : List Addr), PI (X.blk s H scope (compEnvC scope cl C X.env) fp) tg1 iter1 (iD c.calm G' its1))
    (hg1 : ∀ (s : Shared) (H : Hp) (C : Addr) (cl : List (Str × Addr)) (fp : List Addr), PG (X.blk s H scope (compEnvC scope cl C X.env) fp) tg1 (gD c.calm G' G2 vs1 t1)) (ht1 : ∀ (s : Shared) (H : Hp) (C : Addr) (cl : List (Str × Addr)) (fp : List Addr), PTs (X.blk s H scope (compEnvC scope cl C X.env) fp) ifs1 (tT c.calm G2 tt1))
    (he : ∀ (s : Shared) (H : Hp) (C : Addr) (cl : List (Str × Addr)) (fp : List Addr), PE (X.blk s H scope (compEnvC scope cl C X.env) fp) elt (tV c.calm G2 fe)) (hs : ∀ x, foldedSetIterable iter X.env x = pure x := by intro _; rfl) (hs1 : ∀ env x, foldedSetIterable iter1 env x = pure x := by intro _ _; rfl) :
    PE X (.ListComp elt [⟨tg, iter, ifs, 0⟩, ⟨tg1, iter1, ifs1, 0⟩] scope pos) (tO c G (dLc2 its t tt its1 t1 tt1 fe (own.map (·.2)) vs1)) := pe_imp (pe_lc2 hc hN (pi_l hi) ok hv hg ht hi1 hg1 ht1 he hs hs1) (lc2_rd hno)
end
end Dx
end S_DxL
section S_DxK
set_option Elab.async false
set_option linter.all false
set_option maxRecDepth 100000
set_option maxHeartbeats 2000000
namespace Dx
open PySem L2 PyProof.Rows ClX
end Dx
namespace Dx
open PySem L2
theorem wipe_more {σ σ' : L2.St} {ks ks' : List Nat} (hs : ∀ i ∈ ks, i ∈ ks') (h : L2.wipe σ' ks = L2.wipe σ ks) : L2.wipe σ' ks' = L2.wipe σ ks' := by
  apply List.ext_getElem?
  intro k
  have e : (L2.wipe σ' ks)[k]? = (L2.wipe σ ks)[k]? := by rw [h]
  rw [wipe_get, wipe_get] at e ⊢
  by_cases hk : k ∈ ks
  · rw [if_pos hk, if_pos hk] at e
    rw [if_pos (hs k hk), if_pos (hs k hk)]; exact e
  · rw [if_neg hk, if_neg hk] at e
    rw [e]
theorem dg_more {X : Cx} {c : Cf} {G G' : List Ow} {tg : Expr} {ks ks' : List Nat} {t : D → Rho → Res Rho} (hs : ∀ i ∈ ks, i ∈ ks') (h : PG X tg (gD c G G' ks t)) : PG X tg (gD c G G' ks' t) := pg_imp h fun v σ H Q ⟨S0, H0, S, r, d, ok, hv, p⟩ => ⟨S0, H0, S, r, d, ok, hv, by
  unfold PostR at p ⊢
  split at p
  · rename_i r' hr
    exact fun σ' z ok' => p σ' (wipe_more hs z) ok'
  · exact p.elim⟩
end Dx
end S_DxK
section S_DxAA
set_option Elab.async false
set_option linter.all false
set_option maxRecDepth 100000
set_option maxHeartbeats 2000000
namespace Dx
open PySem L2
section
variable {X : Cx} {c : Cf} {L G G' : List Ow} {f f1 f2 : Rho → Res D} {a b e : Expr} {pos : Pos} {tg : Expr}
theorem RgC.up {i j s : Int} (h : 0 < s ∧ s < 1000 ∧ -1000000000000000000 < i ∧ i < 1000000000000000000 ∧ -1000000000000000000 < j ∧ j < 1000000000000000000) : RgC i j s (if i < j then (j - i - 1) / s + 1 else 0).toNat := by
  obtain ⟨h1, h2, h3, h4, h5, h6⟩ := h
  have hs : Builtin.Range.rangeSize i j s = ((if i < j then (j - i - 1) / s + 1 else 0).toNat : Int) := by
    unfold Builtin.Range.rangeSize
    rw [if_pos (by omega)]
    split
    · have : 0 ≤ (j - i - 1) / s := Int.ediv_nonneg (by omega) (by omega)
      omega
    · rfl
  refine ⟨by omega, by omega, ?_, hs⟩
  have hd : i < j → (j - i - 1) / s ≤ j - i - 1 := fun h => Int.ediv_le_self _ (by omega)
  have hd0 : i < j → 0 ≤ (j - i - 1) / s := fun h => Int.ediv_nonneg (by omega) (by omega)
  have hq : i < j → (j - i - 1) / s * s ≤ j - i - 1 := fun h => Int.ediv_mul_le _ (by omega)
  unfold Builtin.Range.small
  unfold Builtin.Range.rangeSize
  simp only [Builtin.Range.rangeFitsLong, Bool.and_eq_true, Bool.or_eq_true, decide_eq_true_eq, beq_iff_eq, show s > 0 from h1, if_true]
  split
  · rename_i hij
    have hd := hd hij
    have hd0 := hd0 hij
    have hq := hq hij
    generalize (j - i - 1) / s = q at *
    have e : (q + 1) * s = q * s + s := by rw [Int.add_mul, Int.one_mul]
    have e0 : 0 ≤ q * s := Int.mul_nonneg hd0 (by omega)
    try rw [e]
    generalize q * s = z at *
    omega
  · omega
def insI (p : Int) : List Int → List Int
  | [] => [p]
  | x :: xs => if x < p then x :: insI p xs else p :: x :: xs
def sortI : List Int → List Int
  | [] => []
  | x :: xs => insI x (sortI xs)
def sortID : D → Res D
  | .lst ds => match allInt ds with
    | some is => .ok (.lst ((sortI is).map D.int))
    | none => .bad
  | _ => .bad
end
section
variable {Q : D → Prop} {E : Str → List Str → List D → Prop} {i j s : Int}
theorem allInt_map : ∀ ns : List Int, allInt (ns.map D.int) = some ns
  | [] => rfl
  | n :: ns => by rw [List.map_cons, allInt, allInt_map ns]
theorem rs_sortI {ns : List Int} (q : Q (.lst ((sortI ns).map D.int))) : Rs (g1 sortID [.lst (ns.map D.int)]) Q E := by
  show Rs (match allInt (ns.map D.int) with | some is => Res.ok (.lst ((sortI is).map D.int)) | none => .bad) Q E
  rw [allInt_map]; exact q
theorem rs_g2 {g : Int → Int → Int} (q : Q (.int (g i j))) : Rs (g2 (intsD g) [.int i, .int j]) Q E := q
theorem rs_sum {ns : List Int} (q : Q (.int ns.sum)) : Rs (g1 sumD [.lst (ns.map D.int)]) Q E := by
  show Rs (match allInt (ns.map D.int) with | some is => Res.ok (.int is.sum) | none => .bad) Q E
  rw [allInt_map]; exact q
end
end Dx
end S_DxAA
section S_DxAB
set_option Elab.async false
set_option linter.all false
set_option maxRecDepth 100000
set_option maxHeartbeats 4000000
namespace Dx
open PySem L2 PyProof.Rows Srt SrtO
section
variable {prog : Program} {w : World} {A : Around} {E : Value → Shared → Prop} {s : Shared}
def IsRow (h : Heap) (v : Value) (k : List Key) : Prop := ∃ a o us n, v = .ref a ∧ h.get? a = some o ∧ o.cls = .type "tuple" ∧ o.data = .seq us.toArray n ∧ Vals (k.map kV) us
theorem IsRow.keeps {h h' : Heap} {v : Value} {k : List Key} (p : IsRow h v k) (kk : ∀ b o, h.get? b = some o → o.cls = .type "tuple" → h'.get? b = some o) : IsRow h' v k := by
  obtain ⟨a, o, us, n, e, ho, hc, hd, hv⟩ := p
  exact ⟨a, o, us, n, e, kk _ _ ho hc, hc, hd, hv⟩
end
end Dx
end S_DxAB
section S_DxAC
set_option Elab.async false
set_option linter.all false
set_option maxRecDepth 100000
set_option maxHeartbeats 4000000
namespace Dx
open PySem L2
section
variable {X : Cx} {c : Cf} {L G G' G'' : List Ow} {f f1 f2 : Rho → Res D} {a b e e2 e3 : Expr} {pos : Pos} {tg : Expr} {k : Nat}
def getE (d k e : D) : Res D := match d with
  | .dk ks vs => match keyD k with
    | some x => .ok ((getK ks vs x).getD e)
    | none => .bad
  | .dt ks vs => match keyT k with
    | some x => .ok ((getK ks vs x).getD e)
    | none => .bad
  | _ => .bad
abbrev FP := (Rho → Res D) × (Rho → Res D)
def dPairs : List FP → Rho → Res (List (D × D))
  | [], _ => .ok []
  | p :: ps, r => (p.1 r).bind fun k => (p.2 r).bind fun d => (dPairs ps r).bind fun kvs => .ok ((k, d) :: kvs)
def RpPs (c : Cf) (S : Hp) : List (V × V) → List (D × D) → Prop
  | [], [] => True
  | v :: vs, d :: ds => Rp c.K c.cm S v.1 d.1 ∧ Rp c.K c.cm S v.2 d.2 ∧ RpPs c S vs ds
  | _, _ => False
def mergeD : List Key → List D → List (D × D) → Res D
  | ks, vs, [] => .ok (.dk ks vs)
  | ks, vs, (k, d) :: kvs => match keyD k with
    | some x => mergeD (putV ks vs x d).1 (putV ks vs x d).2 kvs
    | none => .bad
def dDisp (ps : List FP) : Rho → Res D := fun r => (dPairs ps r).bind fun kvs => mergeD [] [] kvs
theorem RpPs.len {S : Hp} : ∀ {vs : List (V × V)} {ds : List (D × D)}, RpPs c S vs ds → vs.length = ds.length
  | [], [], _ => rfl
  | v :: vs, d :: ds, h => by simp [RpPs.len h.2.2]
  | [], _ :: _, h => h.elim
  | _ :: _, [], h => h.elim
def allBl : List D → Option (List Bool)
  | [] => some []
  | .bl b :: ds => match allBl ds with
    | some bs => some (b :: bs)
    | none => none
  | _ => none
def allD : D → Res D
  | .lst ds => match allBl ds with
    | some bs => .ok (.bl (bs.all id))
    | none => .bad
  | _ => .bad
def inKt (neg : Bool) (d e : D) : Res D := match e with
  | .kt ds => match inFlat d ds with
    | some b => .ok (.bl (if neg then !b else b))
    | none => .bad
  | _ => .bad
def parF3 (i j l : Nat) (f1 f2 f3 : Rho → Res D) : Rho → SR := fun r => liftS r (dCons f1 (dCons f2 (dCons f3 dNil)) r) fun ds => match ds with
  | [d, e, g] => .nx (((r.set i (some d)).set j (some e)).set l (some g))
  | _ => .bad
theorem ds_par3 (i j l : Nat) {f3 : Rho → Res D} {c' : Expr} {x y z : Str} {px py pz pt pt2 : Pos} {kt k2 : Nat} (hg : Gok c G) (hc : X.calm = true) (hN : X.N.Nodup) (hi : X.N[i]? = some x) (hj : X.N[j]? = some y) (hl : X.N[l]? = some z) (hij : i ≠ j) (hil : i ≠ l) (hjl : j ≠ l)
    (hx : X.env.scope.names.lookup x = some .local) (hy : X.env.scope.names.lookup y = some .local) (hz : X.env.scope.names.lookup z = some .local) (ha : PE X a (tV c G f1)) (hb : PE X b (tV c G f2)) (hcc : PE X c' (tV c G f3))
    (hw : swappedStores [.Tuple [.Name x px, .Name y py, .Name z pz] kt pt] (.Tuple [a, b, c'] k2 pt2) X.env = pure (some [x, y, z]))
    (hs : swapsWithSole [.Tuple [.Name x px, .Name y py, .Name z pz] kt pt] (.Tuple [a, b, c'] k2 pt2) pos.line X.env = pure false := by rfl)
    (hs1 : starEach [a, b, c'] X.env = (false, eval a X.env) :: starEach [b, c'] X.env := by rfl) (hs2 : starEach [b, c'] X.env = (false, eval b X.env) :: starEach [c'] X.env := by rfl) (hs3 : starEach [c'] X.env = (false, eval c' X.env) :: starEach [] X.env := by rfl) :
    PS X (.Assign [.Tuple [.Name x px, .Name y py, .Name z pz] kt pt] (.Tuple [a, b, c'] k2 pt2) pos) (sD c L G (((G.set i .v).set j .v).set l .v) (parF3 i j l f1 f2 f3)) :=
  ps_imp (ps_par3 hc hN hi hj hl hij hil hjl hx hy hz (da_cons ha (da_cons hb (da_cons hcc da_nil hs3) hs2) hs1) hw hs) fun E σ H ⟨S0, H0, S, r, ok, p⟩ => st_seq hg ok p fun ds vs S1 H1 w1 o1 m1 p1 => by
    match ds, m1, p1 with
    | [d, e, g], .cons hd (.cons he (.cons hh .nil)), p1 => exact ⟨_, _, _, rfl, p1 _ S1 H1 (((o1.setV i hd).setV j he).setV l hh)⟩
    | [], _, p1 => exact p1.elim
    | [_], _, p1 => exact p1.elim
    | [_, _], _, p1 => exact p1.elim
    | _ :: _ :: _ :: _ :: _, _, p1 => exact p1.elim
end
section
variable {Q : D → Prop} {E : Str → List Str → List D → Prop} {r : Rho} {f f1 f2 f3 : Rho → Res D} {d k e : D}
theorem allBl_map : ∀ bs : List Bool, allBl (bs.map D.bl) = some bs
  | [] => rfl
  | b :: bs => by rw [List.map_cons, allBl, allBl_map bs]
theorem rs_all {bs : List Bool} (q : Q (.bl (bs.all id))) : Rs (g1 allD [.lst (bs.map D.bl)]) Q E := by
  show Rs (match allBl (bs.map D.bl) with | some bs => Res.ok (.bl (bs.all id)) | none => .bad) Q E
  rw [allBl_map]; exact q
end
section
variable {N B C : Rho → Prop} {R : D → Prop} {E : Rho → Str → List Str → List D → Prop} {r : Rho} {f f1 f2 f3 : Rho → Res D} {i j l : Nat}
theorem ss_par3 (h : Rs (f1 r) (fun d => Rs (f2 r) (fun e => Rs (f3 r) (fun g => N (((r.set i (some d)).set j (some e)).set l (some g))) (E r)) (E r)) (E r)) : Ss (parF3 i j l f1 f2 f3 r) N R B C E :=
  ss_lift (rs_cons (h.impE (fun d q => rs_cons (q.impE (fun e q => rs_cons (q.impE (fun g q => rs_nil q) fun _ _ _ z => z)) fun _ _ _ z => z)) fun _ _ _ z => z))
end
end Dx
end S_DxAC
section S_DxAD
set_option Elab.async false
set_option linter.all false
set_option maxRecDepth 100000
set_option maxHeartbeats 2000000
namespace Dx
open PySem L2
section
variable {X : Cx} {c : Cf} {G : List Ow} {pos : Pos}
theorem de_strL {x y : Str} {j : Nat} (h : x = y) : PE X (.Constant (.str x) j pos) (tV c G (dC (.str y))) := by subst h; exact de_str
end
theorem log_small {i : Int} (h : 0 ≤ i) (h1 : i < 1000000000000) : i.natAbs.log2 < 1920 := by
  by_cases h0 : i.natAbs = 0
  · rw [h0]; decide
  · have : i.natAbs < 2 ^ 40 := by omega
    have := (Nat.log2_lt h0).mpr this
    omega
theorem num_ST {i : Int} (h : 0 ≤ i) : (toString i : Str) = Sg (TL.numL i.toNat) := by
  have e : i = ((i.toNat : Nat) : Int) := by omega
  refine TL.ext_tl ?_
  have := TL.tl_num i.toNat
  rw [← e] at this
  exact this
theorem lt_one {a b : Nat} : ([a] < [b]) ↔ a < b := by
  constructor
  · intro h
    cases h with
    | rel h => exact h
    | cons h => cases h
  · intro h; exact List.Lex.rel h
section
variable {Q : D → Prop} {E : Str → List Str → List D → Prop} {i j : Int} {a b l : List Nat} {r : Rho} {f : Rho → Res D} {g : Str → Rho → Res D} {acc : List Nat} {d : D}
theorem rs_strI (h : 0 ≤ i ∧ i < 1000000000000) (q : Q (.str (Sg (TL.numL i.toNat)))) : Rs (g1 strD [.int i]) Q E :=
  rs_guard (log_small h.1 h.2) (by show Q (.str (toString i)); rw [num_ST h.1]; exact q)
theorem rs_fmtI (h : 0 ≤ i ∧ i < 1000000000000) (q : Q (.str (Sg (TL.numL i.toNat)))) : Rs (fmtD (.int i)) Q E :=
  rs_guard (log_small h.1 h.2) (by show Q (.str (toString i)); rw [num_ST h.1]; exact q)
theorem rs_fmtS (h : a.length ≤ sizeLine) (q : Q (.str (Sg a))) : Rs (fmtD (.str (Sg a))) Q E := rs_guard (by rw [ST_len]; exact h) q
theorem rs_jnil (q : Q (.str (Sg acc))) : Rs (dJnil (Sg acc) r) Q E := q
theorem rs_jcons (h : Rs (f r) (fun d => Rs (asS d) (fun y => ∃ l, y = Sg l ∧ acc.length + l.length ≤ 100000 ∧ Rs (g (Sg (acc ++ l)) r) Q E) E) E) : Rs (dJcons f g (Sg acc) r) Q E :=
  Rs.bind (h.impE (fun d q => Rs.bind (q.impE (fun y q => by
    obtain ⟨l, rfl, h1, h2⟩ := q
    rw [ST_app]
    exact rs_guard (by rw [ST_len, List.length_append]; exact Nat.le_trans h1 sz5) h2) fun _ _ _ z => z)) fun _ _ _ z => z)
theorem rs_asSJ {l : List Nat} (h : acc.length + l.length ≤ 100000) (k : Rs (g (Sg (acc ++ l)) r) Q E) : Rs (asS (.str (Sg l))) (fun y => ∃ l, y = Sg l ∧ acc.length + l.length ≤ 100000 ∧ Rs (g (Sg (acc ++ l)) r) Q E) E := ⟨l, rfl, h, k⟩
theorem rs_dJoin (h : Rs (g (Sg []) r) Q E) : Rs (dJoin g r) Q E := h
theorem rs_ord {n : Nat} (q : Q (.int n)) : Rs (g1 ordX [.str (Sg [n])]) Q E := rs_guard (by rw [ST_len]; rfl) q
theorem rs_leS {m n : Nat} (q : Q (.bl (decide (m ≤ n)))) : Rs (leD (.str (Sg [m])) (.str (Sg [n]))) Q E := by
  show Q (.bl (!decide ([n] < [m])))
  rw [show (!decide ([n] < [m])) = decide (m ≤ n) from by
    rw [Bool.eq_iff_iff]
    simp only [Bool.not_eq_true', decide_eq_false_iff_not, decide_eq_true_eq, lt_one]
    omega]
  exact q
theorem inFlat_ints (i : Int) (ns : List Int) : inFlat (.int i) (ns.map D.int) = some (decide (i ∈ ns)) := by
  have e : flatDs (ns.map D.int) = some (ns.map V.int) := by
    induction ns with
    | nil => rfl
    | cons n ns ih => rw [List.map_cons, flatDs, ih]; rfl
  unfold inFlat
  rw [e]
  show some (inV (V.int i) (ns.map V.int)) = _
  congr 1
  induction ns with
  | nil => rfl
  | cons n ns ih =>
    have e : flatDs (ns.map D.int) = some (ns.map V.int) := by
      clear ih e
      induction ns with
      | nil => rfl
      | cons n ns ih => rw [List.map_cons, flatDs, ih]; rfl
    have ih := ih e
    unfold inV at ih ⊢
    rw [List.map_cons, List.any_cons, ih]
    show (decide (n = i) || decide (i ∈ ns)) = _
    by_cases h : n = i
    · subst h; simp
    · have h' : ¬ i = n := fun z => h z.symm
      simp [h, h']
theorem rs_inKI {neg : Bool} {ns : List Int} (q : Q (.bl (if neg then !decide (i ∈ ns) else decide (i ∈ ns)))) : Rs (inKt neg (.int i) (.kt (ns.map D.int))) Q E := by
  show Rs (match inFlat (.int i) (ns.map D.int) with | some b => Res.ok (D.bl (if neg then !b else b)) | none => .bad) Q E
  rw [inFlat_ints]; exact q
theorem rs_inI {ns : List Int} (q : Q (.bl (decide (i ∈ ns)))) : Rs (inD (.int i) (.lst (ns.map D.int))) Q E := by
  show Rs ((inLst (.int i) (ns.map D.int)).bind _) Q E
  unfold inLst
  rw [inFlat_ints]; exact q
theorem rs_ninI {ns : List Int} (q : Q (.bl (!decide (i ∈ ns)))) : Rs (ninD (.int i) (.lst (ns.map D.int))) Q E := by
  show Rs ((inLst (.int i) (ns.map D.int)).bind _) Q E
  unfold inLst
  rw [inFlat_ints]; exact q
end
theorem set_last {α : Type} (xs : List α) (x y : α) : (xs ++ [x]).set xs.length y = xs ++ [y] := by
  rw [List.set_append_right _ _ (Nat.le_refl _), Nat.sub_self]
  rfl
abbrev TD := List (List Nat × D)
def kS (a : List Nat) : Key := .inr (Sg a)
theorem kS_inj {a b : List Nat} : kS a = kS b ↔ a = b := ⟨fun h => by injection h with h; exact ST_inj.mp h, fun h => by rw [h]⟩
def dkT (T : TD) : D := .dk (T.map fun p => kS p.1) (T.map (·.2))
def lk (T : TD) (a : List Nat) : Option D := (T.find? fun p => decide (p.1 = a)).map (·.2)
theorem lk_cons (p : List Nat × D) (T : TD) (a : List Nat) : lk (p :: T) a = if p.1 = a then some p.2 else lk T a := by
  unfold lk
  rw [List.find?_cons]
  by_cases h : p.1 = a
  · rw [if_pos h, decide_eq_true h]; rfl
  · rw [if_neg h, decide_eq_false h]
theorem getK_T (T : TD) (a : List Nat) : getK (T.map fun p => kS p.1) (T.map (·.2)) (kS a) = lk T a := by
  induction T with
  | nil => rfl
  | cons p T ih =>
    rw [List.map_cons, List.map_cons, getK, ih, lk_cons]
    by_cases h : p.1 = a
    · rw [if_pos (kS_inj.mpr h), if_pos h]
    · rw [if_neg (fun z => h (kS_inj.mp z)), if_neg h]
theorem lk_isSome {T : TD} {a : List Nat} : (lk T a).isSome = decide (a ∈ T.map (·.1)) := by
  induction T with
  | nil => rfl
  | cons p T ih =>
    rw [lk_cons, List.map_cons]
    by_cases h : p.1 = a
    · rw [if_pos h]; simp [h]
    · have h' : ¬ a = p.1 := fun z => h z.symm
      rw [if_neg h, ih]; simp [h']
section
variable {Q : D → Prop} {E : Str → List Str → List D → Prop} {T : TD} {a : List Nat} {d e : D} {r : Rho}
theorem rs_inTk {neg : Bool} (q : Q (.bl (if neg then !decide (a ∈ T.map (·.1)) else decide (a ∈ T.map (·.1))))) : Rs (inK neg (.str (Sg a)) (dkT T)) Q E := by
  show Q (.bl (if neg then !(getK (T.map fun p => kS p.1) (T.map (·.2)) (kS a)).isSome else (getK (T.map fun p => kS p.1) (T.map (·.2)) (kS a)).isSome))
  rw [getK_T, lk_isSome]; exact q
theorem rs_getET (q : Q ((lk T a).getD e)) : Rs (getE (dkT T) (.str (Sg a)) e) Q E := by
  show Q ((getK (T.map fun p => kS p.1) (T.map (·.2)) (kS a)).getD e)
  rw [getK_T]; exact q
theorem rs_dD0 (q : Q (dkT [])) : Rs (dD0 r) Q E := q
theorem rs_listTk (q : Q (.lst (T.map fun p => .str (Sg p.1)))) : Rs (g1 listK [dkT T]) Q E := by
  show Q (.lst ((T.map fun p => kS p.1).map keyOf))
  rw [List.map_map]; exact q
theorem rs_lenTk (q : Q (.int T.length)) : Rs (g1 lenK [dkT T]) Q E := by
  show Q (.int (T.map fun p => kS p.1).length)
  rw [List.length_map]; exact q
theorem rs_itTk {Q : List D → Prop} (q : Q (T.map fun p => .str (Sg p.1))) : Rs (itemsK (dkT T)) Q E := by
  show Q ((T.map fun p => kS p.1).map keyOf)
  rw [List.map_map]; exact q
end
section
variable {Q : D → Prop} {E : Str → List Str → List D → Prop} {r : Rho} {fk fv : Rho → Res D} {ps : List FP}
theorem rs_disp (h : Rs (dPairs ps r) (fun kvs => Rs (mergeD [] [] kvs) Q E) E) : Rs (dDisp ps r) Q E := Rs.bind h
theorem rs_pnil {Q : List (D × D) → Prop} (q : Q []) : Rs (dPairs [] r) Q E := q
theorem rs_pcons {Q : List (D × D) → Prop} (h : Rs (fk r) (fun k => Rs (fv r) (fun d => Rs (dPairs ps r) (fun kvs => Q ((k, d) :: kvs)) E) E) E) : Rs (dPairs ((fk, fv) :: ps) r) Q E :=
  Rs.bind (h.impE (fun k q => Rs.bind (q.impE (fun d q => Rs.bind (q.impE (fun _ z => z) fun _ _ _ z => z)) fun _ _ _ z => z)) fun _ _ _ z => z)
end
section
variable {N B C : Rho → Prop} {R : D → Prop} {E : Rho → Str → List Str → List D → Prop} {r : Rho} {t u : Rho → Res Bool} {F K : Rho → SR}
/-- if t or u: F else: K, one test after the other -/
theorem ss_ifo (h : Rs (t r) (fun a => (a = true → Ss (F r) N R B C E) ∧ (a = false → Ss (ifF u F K r) N R B C E)) (E r)) : Ss (ifF (dOr t u) F K r) N R B C E := by
  unfold ifF
  refine ss_lift ?_
  refine rs_orc (h.impE (fun a q => ⟨fun ha => ?_, fun ha => ?_⟩) fun _ _ _ z => z)
  · exact q.1 ha
  · have q := q.2 ha
    unfold ifF at q
    cases hu : u r with
    | ok b => rw [hu] at q; exact q
    | err n ns vs => rw [hu] at q; exact q
    | bad => rw [hu] at q; exact q
theorem ss_ifa (h : Rs (t r) (fun a => (a = true → Ss (ifF u F K r) N R B C E) ∧ (a = false → Ss (K r) N R B C E)) (E r)) : Ss (ifF (dAnd t u) F K r) N R B C E := by
  unfold ifF
  refine ss_lift ?_
  refine rs_andc (h.impE (fun a q => ⟨fun ha => ?_, fun ha => ?_⟩) fun _ _ _ z => z)
  · have q := q.1 ha
    unfold ifF at q
    cases hu : u r with
    | ok b => rw [hu] at q; exact q
    | err n ns vs => rw [hu] at q; exact q
    | bad => rw [hu] at q; exact q
  · exact q.2 ha
end
end Dx
end S_DxAD
section S_DxAE
set_option Elab.async false
set_option linter.all false
set_option maxRecDepth 100000
set_option maxHeartbeats 2000000
namespace Dx
open PySem L2
section
variable {X : Cx} {c : Cf} {L G G' : List Ow} {S0 H0 S H S' H' : Hp} {σ : St} {r : Rho} {e : Expr} {f : Rho → Res D} {pos apos cpos : Pos} {E : Env}
def asL : D → Res (List D)
  | .lst ds => .ok ds
  | _ => .bad
noncomputable def extF (i : Nat) (f : Rho → Res D) : Rho → SR := fun r => liftS r (ownL i r) fun ds => liftS r (f r) fun d => liftS r (asL d) fun es => guardS (ds.length + es.length ≤ sizeLine) (.nx (r.set i (some (.lst (ds ++ es)))))
theorem ds_ext (i : Nat) {x : Str} {pn : Pos} (hg : Gok c G) (k : kd G i = .o) (ho : PE X (.Name x pn) (tVar i)) (he : PE X e (tV c G f)) (hw : swapsWith (.Call (.Attribute (.Name x pn) "extend" apos) [e] [] cpos) none pos.line X.env = pure false := by rfl)
    (hbase : attributeBase (.Name x pn) "extend" X.env (eval (.Name x pn) X.env) = eval (.Name x pn) X.env := by rfl)
    (hfew : ((backTo cpos (starEach [e] X.env)).all (fun x => !x.1) && (backToKw cpos (keywordEach [] X.env)).all (fun x => x.1.isSome) && decide ([e].length + ([] : List Keyword).length + (if ([] : List Keyword).isEmpty then 0 else 1) < 30)) = true := by rfl)
    (hline : (apos.endLine == cpos.line) = true := by rfl) (hs : starEach [e] X.env = (false, eval e X.env) :: starEach [] X.env := by rfl) :
    PS X (.Expr (.Call (.Attribute (.Name x pn) "extend" apos) [e] [] cpos) pos) (sD c L G G (extF i f)) :=
  ps_imp (ps_expr (pe_bm PySem.F.plainAttrs_list PySem.F.slot_list_extend PySem.F.type_list_extend mt_extend ho (pa_cons he pa_nil hs) hbase hfew hline hs rfl) hw) fun E σ H ⟨S0, H0, S, r, ok, p⟩ => by
    obtain ⟨q, xs, ds, hd, z1, z2, z3, p1⟩ := of_ownL ok k p
    refine ⟨.ref q, z1, .inl ⟨rfl, xs, .inl (.inl z2)⟩, st_seq hg ok p1 fun d v S1 H1 w1 o1 m1 p2 => ?_⟩
    cases d with
    | lst es =>
      replace p2 : PostS c S0 H0 L G (guardS (ds.length + es.length ≤ sizeLine) (.nx (r.set i (some (.lst (ds ++ es)))))) E := p2
      obtain ⟨hl, p2⟩ := p2.gd
      cases m1 with
      | lst a1 r1 =>
        exact ⟨q, _, xs, _, rfl, rfl, w1.h _ _ z2, o1.ex _ _ a1, by rw [z3.length, r1.length]; exact hl, p2 σ S1 _ (o1.mut k hd z1 (.lst ((z3.mono w1.s).app r1)))⟩
    | _ => exact p2.elim
end
section
variable {Q : D → Prop} {E : Str → List Str → List D → Prop} {r : Rho} {f : Rho → Res D}
theorem rs_asL {Q : List D → Prop} {ds : List D} (q : Q ds) : Rs (asL (.lst ds)) Q E := q
end
section
variable {N B C : Rho → Prop} {R : D → Prop} {E : Rho → Str → List Str → List D → Prop} {r : Rho} {f : Rho → Res D} {i : Nat}
theorem ss_ext {ds : List D} (h1 : r[i]? = some (some (.lst ds))) (h : Rs (f r) (fun d => Rs (asL d) (fun es => ds.length + es.length ≤ sizeLine ∧ N (r.set i (some (.lst (ds ++ es))))) (E r)) (E r)) : Ss (extF i f r) N R B C E := by
  unfold extF
  refine ss_lift (Rs.of (a := ds) (by unfold ownL; rw [h1]) (ss_lift (h.impE (fun d q => ss_lift (q.impE (fun es q => ?_) fun _ _ _ z => z)) fun _ _ _ z => z)))
  rw [guardS_pos q.1]; exact q.2
end
end Dx
end S_DxAE
section S_DxAF
set_option Elab.async false
set_option linter.all false
set_option maxRecDepth 100000
set_option maxHeartbeats 4000000
namespace Dx
open PySem L2 PySem.Spec PyProof.Rows
end Dx
end S_DxAF
section S_DxAG
set_option Elab.async false
set_option linter.all false
set_option maxRecDepth 100000
set_option maxHeartbeats 4000000
namespace Dx
open PySem L2
end Dx
end S_DxAG
section S_DxAH
set_option Elab.async false
set_option linter.all false
set_option maxRecDepth 100000
set_option maxHeartbeats 2000000
namespace Dx
open PySem L2
theorem rs_lc2 {α : Type} {Q : D → Prop} {E : Str → List Str → List D → Prop} {r : Rho} {its its1 : Rho → Res (List D)} {t t1 : D → Rho → Res Rho} {fe : Rho → Res D} {vs vs1 : List Nat} (c : α → D) (g : α → List D) (xs : List α) (hi : Rs (its r) (fun ds => ds = xs.map c) E)
    (hs : ∀ x ∈ xs, ∃ r1, t (c x) (wipeR r vs) = .ok r1 ∧ Rs (its1 r1) (fun ds => lcLoop t1 dYes fe (wipeR r1 vs1) ds = .ok (g x)) nE) (hl : (xs.flatMap g).length ≤ sizeLine) (q : Q (.lst (xs.flatMap g))) : Rs (dLc2 its t dYes its1 t1 dYes fe vs vs1 r) Q E := by
  have go : ∀ ys : List α, (∀ x ∈ ys, x ∈ xs) → lc2Loop t dYes its1 t1 dYes fe vs1 (wipeR r vs) (ys.map c) = .ok (ys.flatMap g) := by
    intro ys
    induction ys with
    | nil => intro _; rfl
    | cons y ys ih =>
      intro h
      obtain ⟨r1, h1, h2⟩ := hs y (h y (by simp))
      obtain ⟨ds, h3, h4⟩ := h2.get
      rw [List.map_cons, lc2Loop, h1]
      dsimp only
      show (match its1 r1 with
        | .ok ds1 => _
        | _ => _) = _
      rw [h3]
      dsimp only
      rw [h4]
      dsimp only
      rw [ih fun x hx => h x (by simp [hx])]
      rfl
  refine Rs.bind (hi.impE (fun ds e => ?_) fun _ _ _ z => z)
  subst e
  rw [go xs fun x hx => hx]
  exact rs_guard hl q
end Dx
end S_DxAH
section S_DxAI
set_option Elab.async false
set_option linter.all false
set_option maxRecDepth 100000
set_option maxHeartbeats 2000000
namespace Dx
open PySem PySem.Spec L2 ItX PyProof.Rows
end Dx
end S_DxAI
section S_DxAJ
set_option Elab.async false
set_option linter.all false
set_option maxRecDepth 100000
set_option maxHeartbeats 2000000
namespace Dx
open PySem L2 ItX PyProof.Rows
section
variable {X : Cx} {c : Cf} {L G G' : List Ow} {f f1 : Rho → Res D} {fs gs : Rho → Res (List D)} {e o : Expr} {es : List Expr} {kws : List Keyword} {pos apos p : Pos} {C : Addr}
variable {k n : Nat} {fa : Addr} {fd : FuncData} {ps ks : List Str} {ms ms1 ms2 : List Bool} {rm : Bool} {F : List D → Res D}
theorem RpM.length {S H : Hp} : ∀ {ms : List Bool} {vs : List V} {ds : List D}, RpM c S H ms vs ds → vs.length = ms.length
  | [], vs, ds, h => by cases vs <;> cases ds <;> first | rfl | exact h.elim
  | b :: ms, vs, ds, h => by
    cases vs with
    | nil => cases b <;> cases ds <;> exact h.elim
    | cons v vs => cases ds with
      | nil => cases b <;> exact h.elim
      | cons d ds => cases b <;> exact congrArg Nat.succ (RpM.length h.2)
end
end Dx
end S_DxAJ
section S_DxAK
set_option Elab.async false
set_option linter.all false
set_option maxRecDepth 100000
set_option maxHeartbeats 2000000
namespace Dx
open PySem PySem.Spec L2 ItX PyProof.Rows
end Dx
end S_DxAK
section S_DxAL
set_option Elab.async false
set_option linter.all false
set_option maxRecDepth 100000
set_option maxHeartbeats 2000000
namespace Dx
open PySem PySem.Spec L2 ItX PyProof.Rows
theorem _root_.L2H.RoomH.units {k : Nat} {A : Around} (r : L2H.RoomH k A) : A.units + 64 < cLine := by have := r.un; omega
end Dx
end S_DxAL
section S_DxAM
set_option Elab.async false
set_option linter.all false
set_option maxRecDepth 100000
set_option maxHeartbeats 2000000
namespace Dx
open PySem L2 ItX
end Dx
end S_DxAM
section S_DxAN
set_option Elab.async false
set_option linter.all false
set_option maxRecDepth 100000
set_option maxHeartbeats 2000000
namespace Dx
open PySem L2 ItX
open PyProof.Rows hiding St
end Dx
end S_DxAN
section S_DxAO
set_option Elab.async false
set_option linter.all false
set_option maxRecDepth 100000
set_option maxHeartbeats 2000000
namespace Dx
open PySem L2 ItX
open PyProof.Rows hiding St
def rem (H : Hp) (p : Addr) : Hp := fun a => if a = p then none else H a
theorem rem_same {H : Hp} {p : Addr} : rem H p p = none := if_pos rfl
theorem rem_ne {H : Hp} {p a : Addr} (h : a ≠ p) : rem H p a = H a := if_neg h
theorem rem_put {H : Hp} {p : Addr} {o : HO} (h : H p = some o) : upd (rem H p) p o = H := by
  funext a
  by_cases e : a = p
  · subst e; rw [upd_same, h]
  · rw [upd_ne e, rem_ne e]
theorem Ex.rem {S H : Hp} {p : Addr} (e : Ex S H) (n : S p = none) : Ex S (rem H p) := fun a o h => by
  have : a ≠ p := fun z => by subst z; rw [n] at h; cases h
  exact (e a o h).at (rem_ne this)
section
variable {c : Cf} {S0 H0 S H S' H' : Hp} {G : List Ow} {σ : St} {r : Rho}
/-- the own object in slot i is given away -/
theorem EnvOk.take (e : EnvOk c S0 H0 G S H σ r) {i : Nat} {d : D} {p : Addr} (k : kd G i = .o) (h : r[i]? = some (some d)) (hs : σ[i]? = some (some (.ref p))) (s3 : S p = none) (s4 : H0 p = none) : EnvOk c S0 H0 (G.set i .v) S (rem H p) σ (r.set i none) := by
  have sl : ∀ {j : Nat} {b : D}, (r.set i none)[j]? = some (some b) → i ≠ j ∧ r[j]? = some (some b) := fun {j b} hb => by
    rcases set_some hb with ⟨_, ea, _⟩ | ⟨ne, hb⟩
    · cases ea
    · exact ⟨ne, hb⟩
  have tk : Tk H (rem H p) := by
    obtain ⟨q, ho, t1, t2, _, _, t5⟩ := e.own k h
    rw [hs] at t1; cases t1
    exact Tk.but (A := [p]) (fun a ha => ⟨ho, by rw [List.mem_singleton.mp ha]; exact t2, t5.pl⟩) fun b u hb eb => by
      rw [rem_ne fun z => hb (List.mem_singleton.mpr z)]; exact eb
  refine ⟨⟨e.fwd.s, e.fwd.h.rem s4, e.fwd.sub.rem s3, e.fwd.new, e.fwd.tb.trans tk⟩, by rw [List.length_set]; exact e.len, fun j b hb => ?_, fun j l b b' q hj hl kj kl sj sl' => ?_, let ⟨A, hA⟩ := e.sto; ⟨A, ?_⟩⟩
  · obtain ⟨ne, hb⟩ := sl hb
    obtain ⟨v, h1, h2⟩ := e.slot j b hb
    refine ⟨v, h1, ?_⟩
    rw [kd_set_ne ne]
    cases kj : kd G j with
    | o =>
      rw [kj] at h2
      obtain ⟨q, ho, z1, z2, z3, z4, z5⟩ := h2
      subst z1
      have hq : q ≠ p := fun z => by subst z; exact ne (e.sep i j d b q h hb (isO_o k) (isO_o kj) hs h1)
      exact ⟨q, ho, rfl, by rw [rem_ne hq]; exact z2, z3, z4, z5⟩
    | i a =>
      rw [kj] at h2
      obtain ⟨z0, q, ho, z1, z2, z3, z4, z5⟩ := h2
      subst z1
      have hq : q ≠ p := fun z => by subst z; exact ne (e.sep i j d b q h hb (isO_o k) (by rw [kj]; trivial) hs h1)
      exact ⟨z0, q, ho, rfl, by rw [rem_ne hq]; exact z2, z3, z4, z5⟩
    | v => rw [kj] at h2; exact h2
    | b => rw [kj] at h2; exact h2
    | s P => rw [kj] at h2; exact h2
    | w => rw [kj] at h2; exact h2
    | j a0 fs0 => rw [kj] at h2; exact h2
    | x a C dd => rw [kj] at h2; exact h2
  · obtain ⟨n1, hj⟩ := sl hj
    obtain ⟨n2, hl⟩ := sl hl
    rw [kd_set_ne n1] at kj
    rw [kd_set_ne n2] at kl
    exact e.sep j l b b' q hj hl kj kl sj sl'
  · have np : ∀ a ∈ A, a ≠ p := fun a ha z => hA.own i d p h (isO_o k) hs (z ▸ ha)
    refine hA.sub (fun a ha => (hA.out a ha).1) (fun a ha => rem_ne (np a ha)) Ex.refl (fun j b q hj kj sj => ?_) fun j b kj hj => ?_
    · obtain ⟨n1, hj⟩ := sl hj
      rw [kd_set_ne n1] at kj
      exact hA.own j b q hj kj sj
    · obtain ⟨n1, hj⟩ := sl hj
      rw [kd_set_ne n1]
      exact ⟨rfl, hj, rfl⟩
theorem set_kd {G : List Ow} {i : Nat} (k : kd G i = .o) : (G.set i .v).set i .o = G := by
  rw [List.set_set]
  apply List.ext_getElem?
  intro j
  by_cases e : i = j
  · subst e
    have hl : i < G.length := Nat.lt_of_not_le fun z => by
      have : kd G i = .v := by
        show G.getD i .v = .v
        rw [List.getD_eq_getElem?_getD, List.getElem?_eq_none z]; rfl
      rw [this] at k; cases k
    rw [List.getElem?_set_self hl]
    have : kd G i = G[i] := by
      show G.getD i .v = _
      rw [List.getD_eq_getElem?_getD, List.getElem?_eq_getElem hl]; rfl
    rw [List.getElem?_eq_getElem hl, ← this, k]
  · rw [List.getElem?_set_ne e]
end
end Dx
end S_DxAO
section S_DxAP
set_option Elab.async false
set_option linter.all false
set_option maxRecDepth 100000
set_option maxHeartbeats 2000000
namespace PySem
end PySem
namespace RZ
open PySem
open PySem.Sem (wp)
end RZ
end S_DxAP
section S_DxAQ
set_option Elab.async false
set_option linter.all false
set_option maxRecDepth 100000
set_option maxHeartbeats 2000000
namespace RZ
open PySem PySem.Spec PyProof.Rows L2
end RZ
end S_DxAQ
section S_DxAR
set_option Elab.async false
set_option linter.all false
set_option maxRecDepth 100000
set_option maxHeartbeats 2000000
namespace Dx
open PySem L2 ItX
open PyProof.Rows hiding St
end Dx
end S_DxAR
section S_DxAS
set_option Elab.async false
set_option linter.all false
set_option maxRecDepth 100000
set_option maxHeartbeats 2000000
namespace Dx
open PySem L2 ItX
open PyProof.Rows hiding St
end Dx
end S_DxAS
section S_DxAT
set_option Elab.async false
set_option linter.all false
set_option maxRecDepth 100000
set_option maxHeartbeats 2000000
namespace Dx
open PySem L2 ItX
open PyProof.Rows hiding St
end Dx
end S_DxAT
section S_DxAU
set_option Elab.async false
set_option linter.all false
set_option maxRecDepth 100000
set_option maxHeartbeats 2000000
namespace Dx
open PySem L2 ItX
open PyProof.Rows hiding St
end Dx
end S_DxAU
section S_DxAV
set_option Elab.async false
set_option linter.all false
set_option maxRecDepth 100000
set_option maxHeartbeats 2000000
namespace Dx
open PySem L2 ItX
open PyProof.Rows hiding St
def enumX (d : D) : Res (List D) := (itemsX d).bind fun ds => .ok (numd 0 ds)
end Dx
end S_DxAV
section S_DxAW
set_option Elab.async false
set_option linter.all false
set_option maxRecDepth 100000
set_option maxHeartbeats 2000000
namespace Dx
open PySem L2 HandSPX
open PyProof.Rows hiding St
end Dx
end S_DxAW
section S_DxAX
set_option Elab.async false
set_option linter.all false
set_option maxRecDepth 100000
set_option maxHeartbeats 2000000
namespace Dx
open PySem L2 PySem.Spec
open PyProof.Rows hiding St passOn frameOf
end Dx
end S_DxAX
section S_DxAY
set_option Elab.async false
set_option linter.all false
set_option maxRecDepth 100000
set_option maxHeartbeats 2000000
namespace Dx
open PySem L2
open PyProof.Rows hiding St
end Dx
end S_DxAY
section S_DxAZ
set_option Elab.async false
set_option linter.all false
set_option maxRecDepth 100000
set_option maxHeartbeats 2000000
namespace Dx
open PySem L2
open PyProof.Rows hiding St
section
variable {X : Cx} {c : Cf} {L G G' : List Ow} {σ : St} {S0 H0 S H S' H' : Hp} {r : Rho} {pos : Pos} {e : Expr}
theorem RmA.snoc {A : List Addr} {xs : List V} {row : List D} {v : V} {d : D} (h : RmA c.K c.cm A S xs row) (hv : RmV c.K c.cm A S v d) : RmA c.K c.cm A S (xs ++ [v]) (row ++ [d]) := by
  refine ⟨by rw [List.length_append, List.length_append, h.1]; rfl, fun i u b hu hb => ?_⟩
  by_cases hi : i < row.length
  · rw [List.getElem?_append_left (by rw [h.1]; exact hi)] at hu
    rw [List.getElem?_append_left hi] at hb
    exact h.2 i u b hu hb
  · rw [List.getElem?_append_right (by rw [h.1]; omega), h.1] at hu
    rw [List.getElem?_append_right (by omega)] at hb
    cases hz : i - row.length with
    | zero =>
      rw [hz] at hu hb
      cases hu; cases hb
      exact hv
    | succ n =>
      rw [hz] at hb
      simp at hb
theorem RmA.dropLast {A : List Addr} {xs : List V} {row : List D} (h : RmA c.K c.cm A S xs row) : RmA c.K c.cm A S xs.dropLast row.dropLast := by
  refine ⟨by rw [List.length_dropLast, List.length_dropLast, h.1], fun i u b hu hb => ?_⟩
  rw [List.getElem?_dropLast] at hu hb
  split at hu
  · split at hb
    · exact h.2 i u b hu hb
    · cases hb
  · cases hu
variable {a b : Expr} {f1 f2 : Rho → Res D} {p1 p2 : Pos}
end
end Dx
end S_DxAZ
section S_DxBA
set_option Elab.async false
set_option linter.all false
set_option maxRecDepth 100000
set_option maxHeartbeats 2000000
namespace Dx
open PySem L2
open PyProof.Rows hiding St
end Dx
end S_DxBA
section S_DxBB
set_option Elab.async false
set_option linter.all false
set_option maxRecDepth 100000
set_option maxHeartbeats 2000000
namespace Dx
open PySem L2
open PyProof.Rows hiding St
section
variable {X : Cx} {c : Cf} {L G G' : List Ow} {σ : St} {S0 H0 S H S' H' : Hp} {r : Rho} {pos : Pos} {e : Expr}
theorem RmV.plain {A : List Addr} {v : V} {d : D} (h : RmV c.K c.cm A S v d) (ho : isOwn d = false) : Rp c.K c.cm S v d := by
  rcases h with h | ⟨j, a, e, _⟩
  · exact h
  · subst e; cases ho
end
end Dx
end S_DxBB
section S_DxBC
set_option Elab.async false
set_option linter.all false
set_option maxRecDepth 100000
set_option maxHeartbeats 2000000
namespace Dx
open PySem L2
open PyProof.Rows hiding St
inductive ModR (K : PySem.W.Frag) : List DictEntry → List (Str × D) → Prop
  | nil : ModR K [] []
  | cons {h : Int} {x y : Str} {t : Tok} {u : Value} {r : List DictEntry} {v : V} {d : D} {rows : List (Str × D)} (h0 : x = y) (h2 : RelV v u) (h3 : ∀ (cm : CM) S, Rp K cm S v d) (h4 : ModR K r rows) :
      ModR K (⟨h, .str x t, u⟩ :: r) ((y, d) :: rows)
def ModD (K : PySem.W.Frag) (w : World) (a : Addr) (rows : List (Str × D)) : Prop := ∃ es n, KDict K w a es n ∧ ModR K es.toList rows
theorem ModD.mk {K : PySem.W.Frag} {w : World} {a : Addr} {es : List DictEntry} {n : Nat} {rows : List (Str × D)} (h1 : K.lookup a = some ⟨.type "dict", none, .dict es.toArray n, #[]⟩) (h2 : PySem.W.KeysLit w.params es) (h3 : (a == sysModules) = false) (h4 : ModR K es rows) :
    ModD K w a rows := ⟨_, n, ⟨h1, by simpa using h2, h3⟩, by simpa using h4⟩
end Dx
end S_DxBC
section S_DxBD
set_option Elab.async false
set_option linter.all false
set_option maxRecDepth 100000
set_option maxHeartbeats 2000000
namespace Dx
open PySem L2 ItX
open PyProof.Rows hiding St
end Dx
end S_DxBD
section S_DxBE
set_option Elab.async false
set_option linter.all false
set_option maxRecDepth 100000
set_option maxHeartbeats 2000000
namespace Dx
open PySem L2 ItX
open PyProof.Rows hiding St
end Dx
end S_DxBE
section S_DxBF
set_option Elab.async false
set_option linter.all false
set_option maxRecDepth 100000
set_option maxHeartbeats 2000000
namespace PySem
end PySem
namespace RZ
open PySem
open PySem.Sem (wp)
end RZ
end S_DxBF
section S_DxBG
set_option Elab.async false
set_option linter.all false
set_option maxRecDepth 100000
set_option maxHeartbeats 2000000
namespace RZ
open PySem PySem.Spec PyProof.Rows L2
end RZ
namespace Dx
open PySem L2
end Dx
end S_DxBG
section S_DxBH
set_option Elab.async false
set_option linter.all false
set_option maxRecDepth 100000
set_option maxHeartbeats 2000000
namespace Dx
open PySem L2
end Dx
end S_DxBH
section S_DxBI
set_option Elab.async false
set_option linter.all false
set_option maxRecDepth 100000
set_option maxHeartbeats 2000000
namespace Dx
open PySem L2
end Dx
end S_DxBI
section S_DxBJ
set_option Elab.async false
set_option linter.all false
set_option maxRecDepth 100000
set_option maxHeartbeats 2000000
namespace OT
open PySem PySem.SeqAt
/-- a bool as a number -/
def nbI (b : Bool) : Int := if b = true then 1 else 0
end OT
namespace Dx
open PySem L2 OT
/-- a number, and whether it is a bool -/
inductive NB where
  | i (n : Int)
  | b (x : Bool)
def NB.num : NB → Int
  | .i n => n
  | .b x => nbI x
def NB.v : NB → V
  | .i n => .int n
  | .b x => .bl x
def NB.d : NB → D
  | .i n => .int n
  | .b x => .bl x
def nbAt (l : List NB) (j : Nat) : Int := (l.getD j (.i 0)).num
def lexLt (ns ms : List NB) : Bool := Ob.lexAt (fun j => decide (nbAt ns j = nbAt ms j)) (fun j => decide (nbAt ns j < nbAt ms j)) false 0 ns.length
end Dx
end S_DxBJ
section S_DxBK
set_option Elab.async false
set_option linter.all false
set_option maxRecDepth 100000
set_option maxHeartbeats 2000000
namespace L2
open PySem PySem.Spec PyProof.Rows
end L2
end S_DxBK
section S_DxBL
set_option Elab.async false
set_option linter.all false
set_option maxRecDepth 100000
set_option maxHeartbeats 2000000
namespace Dx
open PySem L2 ItX
open PyProof.Rows hiding St
end Dx
end S_DxBL
section S_DxBM
set_option Elab.async false
set_option linter.all false
set_option maxRecDepth 100000
set_option maxHeartbeats 2000000
namespace Dx
open PySem L2 ItX
end Dx
end S_DxBM
section S_DxBN
set_option Elab.async false
set_option linter.all false
set_option maxRecDepth 100000
set_option maxHeartbeats 2000000
namespace Dx
open PySem PySem.Spec L2 ItX PyProof.Rows
end Dx
end S_DxBN
section S_DxBO
set_option Elab.async false
set_option linter.all false
set_option maxRecDepth 100000
set_option maxHeartbeats 2000000
namespace Dx
open PySem PySem.Spec L2 ItX PyProof.Rows
end Dx
end S_DxBO
section S_DxBP
set_option Elab.async false
set_option linter.all false
set_option maxRecDepth 100000
set_option maxHeartbeats 2000000
namespace Dx
open PySem L2 ItX PyProof.Rows
abbrev KWs : List (Str × V) → List (Str × Value) → Prop := Paired fun (p : Str × V) (q : Str × Value) => p.1 = q.1 ∧ RelV p.2 q.2
theorem KWs.keys : ∀ {a : List (Str × V)} {b : List (Str × Value)}, KWs a b → b.map (·.1) = a.map (·.1)
  | _, _, .nil => rfl
  | _, _, .cons h t => by rw [List.map_cons, List.map_cons, KWs.keys t, h.1]
theorem KWs.zip : ∀ {ks : List Str} {vs : List V} {us : List Value}, Vals vs us → KWs (ks.zip vs) (ks.zip us)
  | [], _, _, _ => .nil
  | _ :: _, _, _, .nil => .nil
  | _ :: _, _, _, .cons h t => .cons ⟨rfl, h⟩ (KWs.zip t)
end Dx
end S_DxBP
section S_DxBQ
set_option Elab.async false
set_option linter.all false
set_option maxRecDepth 100000
set_option maxHeartbeats 2000000
namespace RZ
open PySem
end RZ
namespace Dx
open PySem PySem.Spec L2 ItX PyProof.Rows RZ
end Dx
end S_DxBQ
section S_DxBR
set_option Elab.async false
set_option linter.all false
set_option maxRecDepth 100000
set_option maxHeartbeats 2000000
namespace Dx
open PySem PySem.Spec L2 ItX PyProof.Rows
end Dx
end S_DxBR
section S_DxBS
set_option Elab.async false
set_option linter.all false
set_option maxRecDepth 100000
set_option maxHeartbeats 2000000
namespace Dx
open PySem L2
open PyProof.Rows hiding St
end Dx
end S_DxBS
section S_DxBT
set_option Elab.async false
set_option linter.all false
set_option maxRecDepth 100000
namespace Dx
open PySem PySem.Spec L2 ItX PyProof.Rows
end Dx
end S_DxBT
section S_DxBU
set_option Elab.async false
set_option linter.all false
set_option maxRecDepth 100000
set_option maxHeartbeats 2000000
namespace Dx
open PySem L2
open PyProof.Rows hiding St
/-- no generator stands between these frames -/
def ngF : List Frame → Prop
  | [] => True
  | .ret _ _ _ _ _ _ _ :: fs => ngF fs
  | .gen _ _ _ _ _ :: _ => False
theorem ngF.app : ∀ {as bs : List Frame}, ngF as → ngF bs → ngF (as ++ bs)
  | [], _, _, h => h
  | .ret _ _ _ _ _ _ _ :: as, _, h, h2 => ngF.app (as := as) h h2
  | .gen _ _ _ _ _ :: _, _, h, _ => h.elim
theorem ngF.split : ∀ {fs : List Frame}, ngF fs → splitAtGen fs = none
  | [], _ => rfl
  | .ret _ _ _ _ _ _ _ :: fs, h => by
    have z := ngF.split (fs := fs) h
    show (splitAtGen fs).map _ = none
    rw [z]
    rfl
  | .gen _ _ _ _ _ :: _, h => h.elim
theorem ngF.of_split : ∀ {fs : List Frame}, splitAtGen fs = none → ngF fs
  | [], _ => trivial
  | .ret _ _ _ _ _ _ _ :: fs, h => by
    refine ngF.of_split (fs := fs) ?_
    have z : (splitAtGen fs).map _ = none := h
    cases q : splitAtGen fs with
    | none => rfl
    | some u => rw [q] at z; cases z
  | .gen _ _ _ _ _ :: _, h => by cases h
def ngG : GenState → Prop
  | .suspended _ _ _ _ fs _ => ngF fs
  | _ => True
def ngE : End → Prop
  | .susp _ _ _ _ _ _ fs => ngF fs
  | _ => True
theorem ngE.st {e : End} (h : ngE e) : ngG e.genState := by
  cases e with
  | ret r => trivial
  | susp v g l k c p fs => exact h
def isSus : GenState → Bool
  | .suspended _ _ _ _ _ _ => true
  | _ => false
/-- a frame that stands there and does nothing -/
def deadF (F : Frame) : Frame := .ret (fun _ => .unsupported "") none false [] F.where_.1 F.where_.2 []
/-- it looks alike, and cannot be woken -/
def deadG : GenState → GenState
  | .suspended _ _ c p fs _ => .suspended (fun _ => .unsupported "") [] c p (fs.map deadF) false
  | x => x
theorem deadG.seen (x : GenState) : (deadG x).seen = x.seen := by
  cases x with
  | suspended k l c p fs cl =>
    show (GenStatus.suspended, some ((c, p) :: (fs.map deadF).map Frame.where_)) = (GenStatus.suspended, some ((c, p) :: fs.map Frame.where_))
    rw [List.map_map]
    have : (Frame.where_ ∘ deadF) = Frame.where_ := by
      funext F
      cases F <;> rfl
    rw [this]
  | _ => rfl
theorem deadG.ng (x : GenState) : ngG (deadG x) := by
  cases x with
  | suspended k l c p fs cl =>
    show ngF (fs.map deadF)
    induction fs with
    | nil => trivial
    | cons F fs ih => exact ih
  | _ => trivial
theorem deadG.bare {x : GenState} (h : x.bare = true) : (deadG x).bare = true := by
  cases x <;> first | exact h | rfl
def ngs (a : Array GenState) : Prop := ∀ (i : Nat) (y : GenState), a[i]? = some y → ngG y
theorem ngs.push {a : Array GenState} {y : GenState} (h : ngs a) (hy : ngG y) : ngs (a.push y) := fun i z e => by
  rw [Array.getElem?_push] at e
  split at e
  · cases e; exact hy
  · exact h i z e
theorem ngs.set {a : Array GenState} {g : Nat} {y : GenState} (h : ngs a) (hy : ngG y) : ngs (a.setIfInBounds g y) := fun i z e => by
  rw [Array.getElem?_setIfInBounds] at e
  split at e
  · split at e
    · cases e; exact hy
    · cases e
  · exact h i z e
/-- the true entries put back -/
def rest (ρ : Nat → Option GenState) (s : Shared) : Shared := { s with gens := s.gens.mapIdx fun i y => (ρ i).getD y }
/-- the state has the dead entries -/
def DeadAt (ρ : Nat → Option GenState) (s : Shared) : Prop := ∀ i x, ρ i = some x → isSus x = true ∧ s.gens[i]? = some (deadG x)
section
variable {ρ : Nat → Option GenState} {s s' : Shared} {M : Model} {Γ : Ctx} {p : Pos}
theorem rest_get (i : Nat) : (rest ρ s).gens[i]? = s.gens[i]?.map fun y => (ρ i).getD y := by
  show (s.gens.mapIdx _)[i]? = _
  rw [Array.getElem?_mapIdx]
theorem rest_free {i : Nat} (h : ρ i = none) : (rest ρ s).gens[i]? = s.gens[i]? := by
  rw [rest_get, h]
  cases s.gens[i]? <;> rfl
theorem rest_at {i : Nat} {x : GenState} (d : DeadAt ρ s) (h : ρ i = some x) : (rest ρ s).gens[i]? = some x := by
  rw [rest_get, (d i x h).2, h]
  rfl
theorem rest_size : (rest ρ s).gens.size = s.gens.size := by
  show (s.gens.mapIdx _).size = _
  rw [Array.size_mapIdx]
theorem rest_seen {i : Nat} {y : GenState} (d : DeadAt ρ s) (h : s.gens[i]? = some y) : ∃ z, (rest ρ s).gens[i]? = some z ∧ z.seen = y.seen := by
  cases q : ρ i with
  | none => exact ⟨y, by rw [rest_free q]; exact h, rfl⟩
  | some x =>
    refine ⟨x, rest_at d q, ?_⟩
    have := (d i x q).2
    rw [h] at this
    cases this
    exact (deadG.seen x).symm
theorem DeadAt.push (d : DeadAt ρ s) (y : GenState) : DeadAt ρ { s with gens := s.gens.push y } := fun i x h => by
  obtain ⟨h1, h2⟩ := d i x h
  refine ⟨h1, ?_⟩
  show (s.gens.push y)[i]? = _
  rw [Array.getElem?_push]
  have : i < s.gens.size := (Array.getElem?_eq_some_iff.mp h2).1
  rw [if_neg (by omega)]
  exact h2
theorem rest_push (d : DeadAt ρ s) (y : GenState) : rest ρ { s with gens := s.gens.push y } = { rest ρ s with gens := (rest ρ s).gens.push y } := by
  show ({ s with gens := _ } : Shared) = { s with gens := _ }
  congr 1
  apply Array.ext_getElem?
  intro i
  have hn : ρ s.gens.size = none := by
    cases q : ρ s.gens.size with
    | none => rfl
    | some x =>
      have := (Array.getElem?_eq_some_iff.mp (d _ x q).2).1
      omega
  rw [Array.getElem?_mapIdx, Array.getElem?_push, Array.getElem?_push]
  have hs : (rest ρ s).gens.size = s.gens.size := rest_size
  rw [hs]
  split
  · rename_i e
    rw [e, hn]
    rfl
  · rw [rest_get]
theorem DeadAt.set (d : DeadAt ρ s) {g : Nat} (hg : ρ g = none) (y : GenState) : DeadAt ρ (s.setGen g y) := fun i x h => by
  obtain ⟨h1, h2⟩ := d i x h
  refine ⟨h1, ?_⟩
  have hne : g ≠ i := fun z => by rw [z, h] at hg; cases hg
  show (s.gens.setIfInBounds g y)[i]? = _
  rw [Array.getElem?_setIfInBounds_ne hne]
  exact h2
theorem rest_set {g : Nat} (hg : ρ g = none) (y : GenState) : rest ρ (s.setGen g y) = (rest ρ s).setGen g y := by
  show ({ s with gens := _ } : Shared) = { s with gens := _ }
  congr 1
  apply Array.ext_getElem?
  intro i
  show ((s.gens.setIfInBounds g y).mapIdx _)[i]? = ((rest ρ s).gens.setIfInBounds g y)[i]?
  rw [Array.getElem?_mapIdx, Array.getElem?_setIfInBounds, Array.getElem?_setIfInBounds]
  rw [rest_size, rest_get]
  split
  · rename_i e
    subst e
    split
    · rw [hg]; rfl
    · rfl
  · rfl
/-- nothing runs from an unsupported step -/
theorem runs_uns0 {w : String} {e : End} (h : Runs M Γ p (.unsupported w) [] s e s') : False := by cases h
theorem runs_uns {w : String} {fs : List Frame} {e : End} (h : Runs M Γ p (.unsupported w) fs s e s') : False := by
  cases h with
  | segRet a b => exact runs_uns0 a
  | segGen a b => exact runs_uns0 a
  | segSuspOut a b => exact runs_uns0 b
  | segSuspGen a b => exact runs_uns0 b
theorem not_dead {g : Nat} {y : GenState} (d : DeadAt ρ s) (h : s.gens[g]? = some y) (hy : isSus y = false) : ρ g = none := by
  cases q : ρ g with
  | none => rfl
  | some x =>
    obtain ⟨h1, h2⟩ := d g x q
    rw [h] at h2
    cases h2
    cases x <;> cases h1
    cases hy
theorem runs_swap {t : Sem PySem.Fin} {fs : List Frame} {e : End} (h : Runs M Γ p t fs s e s') : DeadAt ρ s → ngs s.gens → ngF fs → Runs M Γ p t fs (rest ρ s) e (rest ρ s') ∧ DeadAt ρ s' ∧ ngs s'.gens ∧ ngE e := by
  induction h with
  | done => exact fun d n _ => ⟨.done, d, n, trivial⟩
  | raise => exact fun d n _ => ⟨.raise, d, n, trivial⟩
  | again hq _ ih => exact fun d n f => let ⟨a, b⟩ := ih d n f; ⟨.again hq a, b⟩
  | rule _ ih => exact fun d n f => let ⟨a, b⟩ := ih d n f; ⟨.rule a, b⟩
  | «at» _ ih => exact fun d n f => let ⟨a, b⟩ := ih d n f; ⟨.at a, b⟩
  | load ho _ ih => exact fun d n f => let ⟨a, b⟩ := ih d n f; ⟨.load ho a, b⟩
  | update ho _ ih => exact fun d n f => let ⟨a, b⟩ := ih d n f; ⟨.update ho a, b⟩
  | loadIfAlive _ ih => exact fun d n f => let ⟨a, b⟩ := ih d n f; ⟨.loadIfAlive a, b⟩
  | point _ ih => exact fun d n f => let ⟨a, b⟩ := ih d n f; ⟨.point a, b⟩
  | alloc _ ih => exact fun d n f => let ⟨a, b⟩ := ih d n f; ⟨.alloc a, b⟩
  | fresh _ ih => exact fun d n f => let ⟨a, b⟩ := ih d n f; ⟨.fresh a, b⟩
  | ask _ ih => exact fun d n f => let ⟨a, b⟩ := ih d n f; ⟨.ask a, b⟩
  | choose hn _ ih => exact fun d n f => let ⟨a, b⟩ := ih d n f; ⟨.choose hn a, b⟩
  | os _ ih => exact fun d n f => let ⟨a, b⟩ := ih d n f; ⟨.os a, b⟩
  | handled _ ih => exact fun d n f => let ⟨a, b⟩ := ih d n f; ⟨.handled a, b⟩
  | genState hg _ ih =>
    intro d n f
    obtain ⟨a, b⟩ := ih d n f
    obtain ⟨z, h1, h2⟩ := rest_seen d hg
    exact ⟨.genState h1 (by rw [h2]; exact a), b⟩
  | stack _ ih => exact fun d n f => let ⟨a, b⟩ := ih d n f; ⟨.stack a, b⟩
  | thread _ ih => exact fun d n f => let ⟨a, b⟩ := ih d n f; ⟨.thread a, b⟩
  | newGen _ ih =>
    intro d n f
    obtain ⟨a, b⟩ := ih (d.push _) (n.push trivial) f
    rw [rest_push d] at a
    refine ⟨.newGen (by rw [rest_size]; exact a), b⟩
  | call _ _ ih1 ih2 =>
    intro d n f
    obtain ⟨a, b, c, _⟩ := ih1 d n f
    obtain ⟨a2, b2⟩ := ih2 b c f
    exact ⟨.call a a2, b2⟩
  | callSusp _ ih =>
    intro d n f
    obtain ⟨a, b, c, e⟩ := ih d n f
    exact ⟨.callSusp a, b, c, ngF.app e trivial⟩
  | yield => exact fun d n f => ⟨.yield, d, n, trivial⟩
  | resumeFresh hg _ hq _ ih1 ih2 =>
    intro d n f
    have hn := not_dead d hg rfl
    obtain ⟨a, b, c, e⟩ := ih1 (d.set hn _) (n.set trivial) trivial
    obtain ⟨a2, b2⟩ := ih2 (b.set hn _) (c.set e.st) f
    rw [rest_set hn] at a a2
    exact ⟨.resumeFresh (by rw [rest_free hn]; exact hg) a hq a2, b2⟩
  | @resumeSuspended Γ p g r l k s k₀ l₀ c₀ p₀ fs cl e₁ s₁ e s' hg hr hq _ ih1 ih2 =>
    intro d n f
    cases q : ρ g with
    | some x =>
      exfalso
      obtain ⟨h1, h2⟩ := d g x q
      rw [hg] at h2
      cases x with
      | suspended k l c p fs cl =>
        cases h2
        exact runs_uns hr
      | _ => cases h1
    | none =>
      obtain ⟨a, b, c, e⟩ := ih1 (d.set q _) (n.set trivial) (n g _ hg)
      obtain ⟨a2, b2⟩ := ih2 (b.set q _) (c.set e.st) f
      rw [rest_set q] at a a2
      exact ⟨.resumeSuspended (by rw [rest_free q]; exact hg) a hq a2, b2⟩
  | resumeJustStarted hg hv _ ih =>
    intro d n f
    obtain ⟨a, b⟩ := ih d n f
    exact ⟨.resumeJustStarted (by rw [rest_free (not_dead d hg rfl)]; exact hg) hv a, b⟩
  | resumeThrowFresh hg _ ih =>
    intro d n f
    have hn := not_dead d hg rfl
    obtain ⟨a, b⟩ := ih (d.set hn _) (n.set trivial) f
    rw [rest_set hn] at a
    exact ⟨.resumeThrowFresh (by rw [rest_free hn]; exact hg) a, b⟩
  | resumeRunning hg _ ih =>
    intro d n f
    obtain ⟨a, b⟩ := ih d n f
    exact ⟨.resumeRunning (by rw [rest_free (not_dead d hg rfl)]; exact hg) a, b⟩
  | resumeFinished hg _ ih =>
    intro d n f
    obtain ⟨a, b⟩ := ih d n f
    exact ⟨.resumeFinished (by rw [rest_free (not_dead d hg rfl)]; exact hg) a, b⟩
  | segRet _ _ ih1 ih2 =>
    intro d n f
    obtain ⟨a, b, c, _⟩ := ih1 d n trivial
    obtain ⟨a2, b2⟩ := ih2 b c f
    exact ⟨.segRet a a2, b2⟩
  | segGen _ _ _ _ => exact fun d n f => f.elim
  | segSuspOut hs _ ih =>
    intro d n f
    obtain ⟨a, b, c, e⟩ := ih d n trivial
    exact ⟨.segSuspOut hs a, b, c, ngF.app e f⟩
  | segSuspGen hs _ _ _ _ _ => exact fun d n f => by rw [f.split] at hs; cases hs
theorem wakes_swap {g : Nat} {r : Resume} {res : GenResult} (h : Wakes M Γ p g r s res s') (d : DeadAt ρ s) (n : ngs s.gens) : Wakes M Γ p g r (rest ρ s) res (rest ρ s') ∧ DeadAt ρ s' ∧ ngs s'.gens := by
  unfold Wakes at h ⊢
  cases q : s.gens[g]? with
  | none => rw [q] at h; exact h.elim
  | some y =>
    rw [q] at h
    cases y with
    | fresh c =>
      have hn := not_dead d q rfl
      rw [rest_free hn, q]
      dsimp only at h ⊢
      cases r with
      | throw x =>
        obtain ⟨h1, h2⟩ := h
        subst h2
        exact ⟨⟨h1, rest_set hn _⟩, d.set hn _, n.set trivial⟩
      | send v =>
        cases v <;> dsimp only at h ⊢
        case none =>
          obtain ⟨e₁, s₁, hr, hq, h1, h2⟩ := h
          obtain ⟨a, b, c, e⟩ := runs_swap hr (d.set hn _) (n.set trivial) trivial
          rw [rest_set hn] at a
          subst h2
          exact ⟨⟨e₁, rest ρ s₁, a, hq, h1, rest_set hn _⟩, b.set hn _, c.set e.st⟩
        all_goals
          obtain ⟨h1, h2⟩ := h
          subst h2
          exact ⟨⟨h1, rfl⟩, d, n⟩
    | suspended k₀ l₀ c₀ p₀ fs cl =>
      dsimp only at h
      obtain ⟨e₁, s₁, hr, hq, h1, h2⟩ := h
      cases q2 : ρ g with
      | some x =>
        exfalso
        obtain ⟨z1, z2⟩ := d g x q2
        rw [q] at z2
        cases x with
        | suspended k l c p fs cl =>
          cases z2
          exact runs_uns hr
        | _ => cases z1
      | none =>
        rw [rest_free q2, q]
        dsimp only
        obtain ⟨a, b, c, e⟩ := runs_swap hr (d.set q2 _) (n.set trivial) (n g _ q)
        rw [rest_set q2] at a
        subst h2
        exact ⟨⟨e₁, rest ρ s₁, a, hq, h1, rest_set q2 _⟩, b.set q2 _, c.set e.st⟩
    | running =>
      rw [rest_free (not_dead d q rfl), q]
      dsimp only at h ⊢
      obtain ⟨h1, h2⟩ := h
      subst h2
      exact ⟨⟨h1, rfl⟩, d, n⟩
    | finished =>
      rw [rest_free (not_dead d q rfl), q]
      dsimp only at h ⊢
      obtain ⟨h1, h2⟩ := h
      subst h2
      exact ⟨⟨h1, rfl⟩, d, n⟩
/-- what is known behind: a state with the dead entries -/
def Back {α : Type} (ρ : Nat → Option GenState) (Q : α → Shared → Prop) (a : α) (s' : Shared) : Prop := ∃ s2, s' = rest ρ s2 ∧ DeadAt ρ s2 ∧ ngs s2.gens ∧ Q a s2
theorem wp_swap {α : Type} (M : Model) (Γ : Ctx) (t : Sem α) : ∀ (Q : α → Shared → Prop) (E : Value → Shared → Prop) (p : Pos) (s : Shared), DeadAt ρ s → ngs s.gens → Sem.wp M Γ t (fun a _ z => Q a z) (fun a _ z => E a z) p s →
    Sem.wp M Γ t (fun a _ z => Back ρ Q a z) (fun a _ z => Back ρ E a z) p (rest ρ s) := by
  induction t with
  | pure a => intro Q E p s d n h; exact ⟨s, rfl, d, n, h⟩
  | raise e => intro Q E p s d n h; exact ⟨s, rfl, d, n, h⟩
  | unsupported _ => intro Q E p s _ _ h; exact h.elim
  | finish _ => intro Q E p s _ _ h; exact h.elim
  | rule _ k ih => intro Q E p s d n h; exact ih () Q E p s d n h
  | «at» p' k ih => intro Q E p s d n h; exact ih () Q E p' s d n h
  | load a _ k ih => intro Q E p s d n h; obtain ⟨o, ho, h⟩ := h; exact ⟨o, ho, ih o Q E p s d n h⟩
  | update a _ f k ih => intro Q E p s d n h; exact ⟨h.1, ih () Q E p { s with heap := s.heap.update a f } d n h.2⟩
  | loadIfAlive a k ih => intro Q E p s d n h; exact ih _ Q E p s d n h
  | point _ k ih => intro Q E p s d n h; exact ih () Q E p s d n h
  | register _ _ => intro Q E p s _ _ h; exact h.elim
  | alloc o k ih => intro Q E p s d n h; exact ih _ Q E p { s with heap := s.heap.push o } d n h
  | fresh k ih => intro Q E p s d n h; exact ih _ Q E p { s with toks := s.toks + 1 } d n h
  | ask k ih => intro Q E p s d n h; exact ih _ Q E p s d n h
  | choose src m k ih => intro Q E p s d n h; exact ⟨h.1, ih _ Q E p { s with drawn := s.drawn.bump src } d n h.2⟩
  | os q _ k ih => intro Q E p s d n h; exact ih _ Q E p { s with os := (Os.step s.os q).1 } d n h
  | call c hd _ _ k ih =>
    intro Q E p s d n h
    obtain ⟨r, s', hr, h⟩ := h
    obtain ⟨a, b, c, _⟩ := runs_swap hr d n trivial
    exact ⟨r, rest ρ s', a, ih r Q E p s' b c h⟩
  | handled own k ih => intro Q E p s d n h; exact ih _ Q E p s d n h
  | genState g k ih =>
    intro Q E p s d n h
    obtain ⟨st, hs, h⟩ := h
    obtain ⟨z, h1, h2⟩ := rest_seen d hs
    exact ⟨z, h1, by rw [h2]; exact ih _ Q E p s d n h⟩
  | newGen c k ih =>
    intro Q E p s d n h
    have z := ih _ Q E p { s with gens := s.gens.push (.fresh c) } (d.push _) (n.push trivial) h
    rw [rest_push d] at z
    show Sem.wp M Γ (k (rest ρ s).gens.size) _ _ p _
    rw [rest_size]
    exact z
  | resume g r _ k ih =>
    intro Q E p s d n h
    obtain ⟨res, s', hw, h⟩ := h
    obtain ⟨a, b, c⟩ := wakes_swap hw d n
    exact ⟨res, rest ρ s', a, ih res Q E p s' b c h⟩
  | yield _ _ _ _ => intro Q E p s _ _ h; exact h.elim
  | stack k ih => intro Q E p s d n h; exact ih _ Q E p s d n h
  | fork _ _ => intro Q E p s _ _ h; exact h.elim
  | thread k ih => intro Q E p s d n h; exact ih _ Q E p s d n h
  | await _ _ _ _ _ => intro Q E p s _ _ h; exact h.elim
theorem wpAny_swap {α : Type} {A : Around} {t : Sem α} {Q : α → Shared → Prop} {E : Value → Shared → Prop} (d : DeadAt ρ s) (n : ngs s.gens) (h : wpAny M A t Q E s) : wpAny M A t (Back ρ Q) (Back ρ E) (rest ρ s) :=
  fun Γ p hΓ => wp_swap M Γ t Q E p s d n (h Γ p hΓ)
/-- those that sleep, but for U -/
noncomputable def sleeps (U : Nat → Prop) (a : Array GenState) : Nat → Option GenState := fun i => @ite _ (U i) (Classical.propDecidable _) none (match a[i]? with
  | some x => if isSus x = true then some x else none
  | none => none)
noncomputable def dead (U : Nat → Prop) (s : Shared) : Shared := { s with gens := s.gens.mapIdx fun i y => if (sleeps U s.gens i).isSome = true then deadG y else y }
theorem sleeps_some {U : Nat → Prop} {a : Array GenState} {i : Nat} {x : GenState} (h : sleeps U a i = some x) : ¬ U i ∧ a[i]? = some x ∧ isSus x = true := by
  unfold sleeps at h
  split at h
  · cases h
  · rename_i hu
    refine ⟨hu, ?_⟩
    split at h
    · rename_i y e
      split at h
      · rename_i z
        cases h
        exact ⟨e, z⟩
      · cases h
    · cases h
theorem sleeps_of {U : Nat → Prop} {a : Array GenState} {i : Nat} {x : GenState} (hu : ¬ U i) (h : a[i]? = some x) (hx : isSus x = true) : sleeps U a i = some x := by
  unfold sleeps
  rw [if_neg hu, h]
  dsimp only
  rw [if_pos hx]
theorem dead_get {U : Nat → Prop} {i : Nat} : (dead U s).gens[i]? = s.gens[i]?.map fun y => if (sleeps U s.gens i).isSome = true then deadG y else y := by
  show (s.gens.mapIdx _)[i]? = _
  rw [Array.getElem?_mapIdx]
theorem dead_at {U : Nat → Prop} : DeadAt (sleeps U s.gens) (dead U s) := fun i x h => by
  obtain ⟨h1, h2, h3⟩ := sleeps_some h
  refine ⟨h3, ?_⟩
  rw [dead_get, h2, h]
  rfl
theorem dead_back {U : Nat → Prop} : rest (sleeps U s.gens) (dead U s) = s := by
  show ({ s with gens := _ } : Shared) = s
  have : ((dead U s).gens.mapIdx fun i y => ((sleeps U s.gens) i).getD y) = s.gens := by
    apply Array.ext_getElem?
    intro i
    rw [Array.getElem?_mapIdx, dead_get]
    cases q : s.gens[i]? with
    | none => rfl
    | some y =>
      cases q2 : sleeps U s.gens i with
      | none => rfl
      | some x =>
        obtain ⟨_, h2, _⟩ := sleeps_some q2
        rw [q] at h2
        cases h2
        rfl
  rw [this]
theorem dead_ng {U : Nat → Prop} (h : ∀ (i : Nat) (x : GenState), U i → s.gens[i]? = some x → ngG x) : ngs (dead U s).gens := fun i y e => by
  rw [dead_get] at e
  cases q : s.gens[i]? with
  | none => rw [q] at e; cases e
  | some x =>
    rw [q] at e
    have e : (if (sleeps U s.gens i).isSome = true then deadG x else x) = y := Option.some.inj e
    split at e
    · rw [← e]; exact deadG.ng x
    · rename_i hn
      rw [← e]
      by_cases hu : U i
      · exact h i x hu q
      · cases x with
        | suspended k l c p fs cl =>
          rw [sleeps_of hu q rfl] at hn
          exact absurd rfl hn
        | _ => trivial
theorem bare_get {a : Array GenState} (h : AllBare a) {i : Nat} {x : GenState} (e : a[i]? = some x) : x.bare = true := h x (Array.mem_of_getElem? e)
theorem bare_of {a : Array GenState} (h : ∀ (i : Nat) x, a[i]? = some x → x.bare = true) : AllBare a := fun y hy => by
  obtain ⟨i, hi⟩ := Array.mem_iff_getElem?.mp hy
  exact h i y hi
theorem dead_bare {U : Nat → Prop} (h : AllBare s.gens) : AllBare (dead U s).gens := bare_of fun i y e => by
  rw [dead_get] at e
  cases q : s.gens[i]? with
  | none => rw [q] at e; cases e
  | some x =>
    rw [q] at e
    have e : (if (sleeps U s.gens i).isSome = true then deadG x else x) = y := Option.some.inj e
    split at e
    · rw [← e]; exact deadG.bare (bare_get h q)
    · rw [← e]; exact bare_get h q
/-- those that sleep in s, but for U, are as they were in s' -/
def KeptG (U : Nat → Prop) (s s' : Shared) : Prop := ∀ (i : Nat) (x : GenState), ¬ U i → s.gens[i]? = some x → isSus x = true → s'.gens[i]? = some x
theorem KeptG.refl {U : Nat → Prop} : KeptG U s s := fun _ _ _ h _ => h
theorem KeptG.trans {U : Nat → Prop} {s1 : Shared} (a : KeptG U s s1) (b : KeptG U s1 s') : KeptG U s s' := fun i x u h z => b i x u (a i x u h z) z
theorem back_kept {U : Nat → Prop} {s2 : Shared} (d : DeadAt (sleeps U s.gens) s2) : KeptG U s (rest (sleeps U s.gens) s2) := fun i x u h z => rest_at d (sleeps_of u h z)
theorem back_bare {U : Nat → Prop} {s2 : Shared} (d : DeadAt (sleeps U s.gens) s2) (h : AllBare s.gens) (h2 : AllBare s2.gens) : AllBare (rest (sleeps U s.gens) s2).gens := bare_of fun i y e => by
  cases q : sleeps U s.gens i with
  | none => rw [rest_free q] at e; exact bare_get h2 e
  | some x =>
    rw [rest_at d q] at e
    cases e
    exact bare_get h (sleeps_some q).2.1
/-- THE RULE: what runs from every table alike leaves the sleeping ones as they are -/
theorem wpAny_kept {α : Type} {A : Around} {t : Sem α} {Q Q' : α → Shared → Prop} {E E' : Value → Shared → Prop} (U : Nat → Prop) (hU : ∀ (i : Nat) (x : GenState), U i → s.gens[i]? = some x → ngG x)
    (h : wpAny M A t Q E (dead U s)) (hQ : ∀ a s2, DeadAt (sleeps U s.gens) s2 → ngs s2.gens → Q a s2 → KeptG U s (rest (sleeps U s.gens) s2) → Q' a (rest (sleeps U s.gens) s2))
    (hE : ∀ a s2, DeadAt (sleeps U s.gens) s2 → ngs s2.gens → E a s2 → KeptG U s (rest (sleeps U s.gens) s2) → E' a (rest (sleeps U s.gens) s2)) : wpAny M A t Q' E' s := by
  have z := wpAny_swap (ρ := sleeps U s.gens) dead_at (dead_ng hU) h
  rw [dead_back] at z
  refine wpAny_mono z (fun a s' ⟨s2, e, d, n, q⟩ => ?_) fun a s' ⟨s2, e, d, n, q⟩ => ?_
  · subst e
    exact hQ a s2 d n q (back_kept d)
  · subst e
    exact hE a s2 d n q (back_kept d)
end
end Dx
end S_DxBU
section S_DxBV
set_option Elab.async false
set_option linter.all false
set_option maxRecDepth 100000
set_option maxHeartbeats 2000000
namespace Dx
open PySem L2
open PyProof.Rows hiding St
open GenW
/-- the stretch ends so -/
def GRun (M : Model) (A : Around) (Φ : End → Shared → Prop) (c : Code) (t : Sem PySem.Fin) (fs : List Frame) (s : Shared) : Prop :=
  ∀ Γ p, Γ.code = c → Γ.Woken A → ∃ e s', Runs M Γ p t fs s e s' ∧ Φ e s'
theorem wp_false {α : Type} {M : Model} {Γ : Ctx} (t : Sem α) : ∀ {p : Pos} {s : Shared}, Sem.wp M Γ t (fun _ _ _ => False) (fun _ _ _ => False) p s → False := by
  induction t with
  | pure a => intro p s h; exact h
  | raise e => intro p s h; exact h
  | unsupported _ => intro p s h; exact h
  | finish _ => intro p s h; exact h
  | rule _ k ih => intro p s h; exact ih () h
  | «at» q k ih => intro p s h; exact ih () h
  | load a _ k ih => intro p s h; obtain ⟨o, _, h⟩ := h; exact ih o h
  | update a _ f k ih => intro p s h; exact ih () h.2
  | loadIfAlive a k ih => intro p s h; exact ih _ h
  | point _ k ih => intro p s h; exact ih () h
  | register _ _ => intro p s h; exact h
  | alloc o k ih => intro p s h; exact ih _ h
  | fresh k ih => intro p s h; exact ih _ h
  | ask k ih => intro p s h; exact ih _ h
  | choose src m k ih => intro p s h; exact ih _ h.2
  | os q _ k ih => intro p s h; exact ih _ h
  | call c hd _ _ k ih => intro p s h; obtain ⟨r, z, _, h⟩ := h; exact ih r h
  | handled own k ih => intro p s h; exact ih _ h
  | genState g k ih => intro p s h; obtain ⟨st, _, h⟩ := h; exact ih _ h
  | newGen c k ih => intro p s h; exact ih _ h
  | resume g r _ k ih => intro p s h; obtain ⟨res, z, _, h⟩ := h; exact ih res h
  | yield _ _ _ _ => intro p s h; exact h
  | stack k ih => intro p s h; exact ih _ h
  | fork _ _ => intro p s h; exact h
  | thread k ih => intro p s h; exact ih _ h
  | await _ _ _ _ _ => intro p s h; exact h
section
variable {M : Model} {A : Around} {Φ : End → Shared → Prop} {c : Code} {fs : List Frame} {s : Shared} {env : Env} {K : Flow → Sem PySem.Fin} {J : Value → Sem PySem.Fin} {gd : Bool → Bool} {lv : List Value → List Value}
theorem gr_false {α : Type} {m : Sem α} {t : Sem PySem.Fin} {z : Shared} (h : wpAny M (A.over c fs) m (fun _ _ => False) (fun _ _ => False) z) : GRun M A Φ c t fs s := by
  rintro Γ p rfl w
  exact (wp_false m (h (Γ.over fs) p (w.over fs))).elim
theorem gr_wrap {α : Type} {m : Sem α} {K : α → Sem PySem.Fin} {J : Value → Sem PySem.Fin} {gd : Bool → Bool} {lv : List Value → List Value} (h : wpAny M (A.over c fs) m (fun a z => GRun M A Φ c (K a) fs z) (fun x z => GRun M A Φ c (J x) fs z) s) : GRun M A Φ c (m.wrap K J gd lv) fs s := by
  rintro Γ p rfl w
  exact runs_wrap_of_wp K J gd lv m (h (Γ.over fs) p (w.over fs)) (fun a q z x => x Γ q rfl w) fun e q z x => x Γ q rfl w
theorem gr_at {p' : Pos} {k : Unit → Sem PySem.Fin} (h : GRun M A Φ c (k ()) fs s) : GRun M A Φ c (.at p' k) fs s := by
  rintro Γ p rfl w
  obtain ⟨e, z, r, q⟩ := h Γ p' rfl w
  exact ⟨e, z, Runs.head' (fun _ _ x => .at x) r, q⟩
theorem gr_point {l : List Value} {k : Unit → Sem PySem.Fin} (h : GRun M A Φ c (k ()) fs s) : GRun M A Φ c (.point l k) fs s := by
  rintro Γ p rfl w
  obtain ⟨e, z, r, q⟩ := h Γ p rfl w
  exact ⟨e, z, Runs.head' (fun _ _ x => .point x) r, q⟩
theorem gr_call {d : Code} {h : Option Value} {g : Bool} {l : List Value} {k : Result → Sem PySem.Fin} (q : ∀ p, GRun M A Φ d (M.den d) (.ret k h g l c p [] :: fs) s) : GRun M A Φ c (.call d h g l k) fs s := by
  rintro Γ p rfl w
  obtain ⟨e, z, r, y⟩ := q p (Γ.goto d) p rfl (w.goto d)
  exact ⟨e, z, runs_call_seg r, y⟩
theorem gr_leaf {k : Result → Sem PySem.Fin} {h : Option Value} {g : Bool} {l kp : List Value} {c1 : Code} {p1 : Pos} (r : Result) (q : GRun M A Φ c1 (k r) fs s) : GRun M A Φ c (leafOf r) (.ret k h g l c1 p1 kp :: fs) s := by
  rintro Γ p rfl w
  obtain ⟨e, z, x, y⟩ := q (Γ.goto c1) p1 rfl (w.goto c1)
  exact ⟨e, z, Runs.pop r x, y⟩
theorem gr_again {d : Code} (hq : d.quiet = true) (q : GRun M A Φ d (M.den d) fs s) : GRun M A Φ c (.pure (.again d)) fs s := by
  rintro Γ p rfl w
  obtain ⟨e, z, x, y⟩ := q (Γ.goto d) p rfl (w.goto d)
  exact ⟨e, z, Runs.head (c₁ := d) (fun _ _ b => .again hq b) x, y⟩
theorem gr_end (r : Result) (h : Φ (.ret r) s) : GRun M A Φ c (leafOf r) [] s := by
  rintro Γ p rfl _
  exact ⟨.ret r, s, Runs.leaf r, h⟩
theorem gr_yield {v : Value} {g : Bool} {l : List Value} {k : Resume → Sem PySem.Fin} (hf : splitAtGen fs = none) (h : ∀ p, Φ (.susp v g l k c p fs) s) : GRun M A Φ c (.yield v g l k) fs s := by
  rintro Γ p rfl _
  exact ⟨_, s, Runs.yield' fs hf, h p⟩
theorem gr_mono {Φ' : End → Shared → Prop} {t : Sem PySem.Fin} (h : GRun M A Φ c t fs s) (k : ∀ e z, Φ e z → Φ' e z) : GRun M A Φ' c t fs s := fun Γ p e w =>
  let ⟨x, z, r, q⟩ := h Γ p e w
  ⟨x, z, r, k x z q⟩
/-- what stands in the table can go on so -/
def GoG (M : Model) (A : Around) (Φ : End → Shared → Prop) (gs : GenState) (s : Shared) : Prop :=
  match gs with
  | .fresh c => GRun M A Φ c (M.den c) [] s
  | .suspended k _ c _ fs _ => GRun M A Φ c (k (.send .none)) fs s
  | _ => False
theorem wpAny_wakeG {α : Type} {E : Value → Shared → Prop} {g : Nat} {gs : GenState} {l : List Value} {k : GenResult → Sem α} {Q : α → Shared → Prop} (hg : s.gens[g]? = some gs) (go : GoG M A Φ gs (s.setGen g .running))
    (h : ∀ e z, Φ e z → e.quiet = true ∧ wpAny M A (k e.result) Q E (z.setGen g e.genState)) : wpAny M A (.resume g (.send .none) l k) Q E s := by
  intro Γ p w
  rw [Sem.wp_resume]
  cases gs with
  | fresh c =>
    obtain ⟨e, z, r, y⟩ := go (Γ.wake c p) p rfl (w.wake c p)
    obtain ⟨h1, h2⟩ := h e z y
    refine ⟨_, _, ?_, h2 Γ p w⟩
    unfold Wakes
    rw [hg]
    exact ⟨e, z, r, h1, rfl, rfl⟩
  | suspended k0 l0 c p0 fs0 cl =>
    obtain ⟨e, z, r, y⟩ := go (Γ.wake c p) p0 rfl (w.wake c p)
    obtain ⟨h1, h2⟩ := h e z y
    refine ⟨_, _, ?_, h2 Γ p w⟩
    unfold Wakes
    rw [hg]
    exact ⟨e, z, r, h1, rfl, rfl⟩
  | running => exact go.elim
  | finished => exact go.elim
end
section
variable {prog : Program} {w : World} {A : Around} {Φ : End → Shared → Prop} {E : Value → Shared → Prop} {s : Shared} {c : Code} {fs : List Frame} {env : Env} {K : Flow → Sem PySem.Fin} {J : Value → Sem PySem.Fin} {gd : Bool → Bool} {lv : List Value → List Value} {Xe : Value → Shared → Prop}
/-- next of a generator -/
theorem wpAny_nextG {a : Addr} {g : Nat} {gs : GenState} {Q : Option Value → Shared → Prop} (hh : A.handled = none) (hl : s.heap.NoLimit) (hroom : A.depth < recursionLimit) (hg : s.heap.IsGen a g) (hgs : s.gens[g]? = some gs) (go : GoG (model prog w) A.in1 Φ gs (s.setGen g .running))
    (hY : ∀ v gd l k c p fs z, Φ (.susp v gd l k c p fs) z → (End.susp v gd l k c p fs).quiet = true ∧ Q (some v) (z.setGen g (End.susp v gd l k c p fs).genState))
    (hN : ∀ r z, Φ (.ret r) z → (r = .ok (.ret .none) ∨ r = .ok .next) ∧ ∀ h', (∀ b o, z.heap.get? b = some o → h'.get? b = some o) → Q none { z.setGen g .finished with heap := h' }) : wpAny (model prog w) A (pyNext (.ref a)) Q E s := by
  unfold pyNext
  refine wpAny_bind (wpAny_attempt ?_)
  refine wpAny_callSpecial?_slot (name := Str.ofString "__next__") hg.typeIs slot_gen_next ?_
  refine wpAny_call_entry slot_gen_next hg.typeIs entry_gen_next ?_ (args_gen_next _)
  show wpAny (model prog w) A.in1 (Builtin.Generator.genWake (.ref a) (.send .none)) _ _ s
  unfold Builtin.Generator.genWake
  refine wpAny_bind (wpAny_holding (wpAny_genNumber hg ?_))
  refine wpAny_bind (wpAny_genState hgs ?_)
  cases gs with
  | running => exact go.elim
  | finished => exact go.elim
  | _ =>
    refine wpAny_bind (wpAny_roomToWake hl hroom ?_)
    show wpAny (model prog w) A.in1 (.resume g (.send .none) [] _) _ _ s
    refine wpAny_wakeG hgs go fun e z hz => ?_
    cases e with
    | susp v gd l k c p fs =>
      obtain ⟨h1, h2⟩ := hY v gd l k c p fs z hz
      exact ⟨h1, wpAny_pure ⟨v, rfl, wpAny_pure h2⟩⟩
    | ret r =>
      obtain ⟨h1, h2⟩ := hN r z hz
      refine ⟨rfl, ?_⟩
      have hres : End.result (.ret r) = .returned .none := by
        rcases h1 with h1 | h1 <;> subst h1 <;> rfl
      rw [hres]
      show wpAny (model prog w) A.in1 (newExc (.type "StopIteration") [] >>= _) _ _ _
      refine wpAny_bind ?_
      simp only [newExc, newTuple]
      refine wpAny_bind (wpAny_newObj_type ?_ (by size_fits))
      refine wpAny_bind (m := firstArgMember _ _) ?_
      refine wpAny_of_eq (a := Value.none) (by first | rfl | (simp only [firstArgMember]; rfl)) ?_
      refine wpAny_newObj_type ?_ (by size_fits)
      simp only [raiseNew]
      refine wpAny_bind (wpAny_bind (wpAny_handled ?_))
      have ha : A.in1.handled = none := hh
      first | rw [ha] | rw [hh]
      refine wpAny_throw ?_
      refine wpAny_bind ?_
      refine wpAny_isInstance (T := "StopIteration") (b := true) ⟨_, Heap.get?_push_size _ rfl, rfl⟩ isSubtype_stop ?_
      exact wpAny_pure (h2 _ fun b o hb => Heap.get?_push_of_some _ (Heap.get?_push_of_some _ hb))
theorem gr_if {test : Expr} {body orelse : List Stmt} {pos : Pos} (hx : ∀ x z t, Xe x z → GRun (model prog w) A Φ c t fs z)
    (h : wpAny (model prog w) (A.over c fs) (isTrue test env (eval test env)) (fun b z => GRun (model prog w) A Φ c ((execs (if b = true then body else orelse) env).wrap K J gd lv) fs z) Xe s) : GRun (model prog w) A Φ c ((exec (.If test body orelse pos) env).wrap K J gd lv) fs s := by
  rw [exec_If]
  show GRun _ A Φ c (.at pos fun _ => ((isTrue test env (eval test env) >>= fun b => if b = true then execs body env else execs orelse env).wrap K J gd lv)) fs s
  refine gr_at ?_
  rw [Sem.bind_eq_wrap', Sem.wrap_wrap]
  refine gr_wrap (wpAny_mono h (fun b z q => ?_) fun x z q => hx x z _ q)
  cases b with
  | true => rw [if_pos rfl] at q ⊢; exact q
  | false => rw [if_neg Bool.false_ne_true] at q ⊢; exact q
/-- a turn's end -/
def turnK (d : Code) : Flow → Sem PySem.Fin
  | .next => .pure (.again d)
  | .cont => .pure (.again d)
  | .brk => .pure (.done .next)
  | .ret v => .pure (.done (.ret v))
theorem gr_func {body : List Stmt} (h : ∀ J' : Value → Sem PySem.Fin, GRun (model prog w) A Φ (.func body env) ((execs body env).wrap (fun f => .pure (.done (.ret (match f with | .ret v => v | _ => .none)))) J' id id) fs s) :
    GRun (model prog w) A Φ (.func body env) ((model prog w).den (.func body env)) fs s := by
  show GRun _ A Φ _ (.point [] fun _ => ((execs body env).onRaise (leaving env)) >>= _) fs s
  refine gr_point ?_
  rw [Sem.onRaise_eq_wrap, Sem.bind_eq_wrap', Sem.wrap_wrap]
  rw [Sem.wrap_congr (execs body env) _ _ (K' := fun f => .pure (.done (.ret (match f with | .ret v => v | _ => .none)))) (fun f => by cases f <;> rfl) (fun _ => rfl)]
  exact h _
theorem gr_nil (h : GRun (model prog w) A Φ c (K .next) fs s) : GRun (model prog w) A Φ c ((execs [] env).wrap K J gd lv) fs s := h
theorem gr_cons {st : Stmt} {more : List Stmt} (h : GRun (model prog w) A Φ c ((exec st env).wrap (fun f => match f with | .next => (execs more env).wrap K J gd lv | f => K f) J gd lv) fs s) : GRun (model prog w) A Φ c ((execs (st :: more) env).wrap K J gd lv) fs s := by
  rw [execs_cons_wrap]
  exact h
/-- yield e, as a statement -/
theorem gr_yieldS {e : Expr} {yp pos : Pos} (hx : ∀ x z t, Xe x z → GRun (model prog w) A Φ c t fs z) (hf : splitAtGen fs = none) (gdf : gd false = false)
    (h : wpAny (model prog w) (A.over c fs) (eval e env) (fun v z => ∀ l k p, k (.send .none) = K .next → Φ (.susp v false l k c p fs) z) Xe s) (hco : env.scope.isCoroutine = false := by rfl) (hi : interactive env = false := by rfl) :
    GRun (model prog w) A Φ c ((exec (.Expr (.Yield (some e) yp) pos) env).wrap K J gd lv) fs s := by
  rw [exec_Expr env _ pos hi rfl]
  have hy : ∀ v, yieldOut env v = yieldValue v := fun v => by
    simp only [yieldOut, hco, Bool.false_eq_true, if_false]
  show GRun _ A Φ c (.at pos fun _ => ((eval e env >>= fun v => (standAt yp >>= fun _ => yieldOut env v)) >>= fun x => dropValue (.Yield (some e) yp) pos x).wrap K J gd lv) fs s
  simp only [hy]
  refine gr_at ?_
  rw [Sem.bind_eq_wrap', Sem.bind_eq_wrap', Sem.wrap_wrap, Sem.wrap_wrap]
  refine gr_wrap (wpAny_mono h (fun v z q => ?_) fun x z q => hx x z _ q)
  refine gr_at ?_
  show GRun _ A Φ c (.yield v (gd false) _ _) fs z
  rw [gdf]
  exact gr_yield hf fun p => q _ _ p rfl
end
end Dx
end S_DxBV
section S_DxBW
set_option Elab.async false
set_option linter.all false
set_option maxRecDepth 100000
set_option maxHeartbeats 2000000
namespace Dx
open PySem L2
open PyProof.Rows hiding St
open GenW
def GoneN (s s' : Shared) : Prop := s.heap.objs.size ≤ s'.heap.objs.size ∧ ∀ p, p < s.heap.objs.size → s.heap.get? p = none → s'.heap.get? p = none
theorem GoneN.refl {s : Shared} : GoneN s s := ⟨Nat.le_refl _, fun _ _ h => h⟩
theorem GoneN.trans {a b c : Shared} (x : GoneN a b) (y : GoneN b c) : GoneN a c := ⟨Nat.le_trans x.1 y.1, fun p h e => y.2 p (Nat.lt_of_lt_of_le h x.1) (x.2 p h e)⟩
theorem GoneN.same {a b : Shared} (h : b.heap = a.heap) : GoneN a b := by
  refine ⟨by rw [h]; exact Nat.le_refl _, fun p _ e => by rw [h]; exact e⟩
theorem GoneN.push {s : Shared} {o : Obj} {s' : Shared} (h : s'.heap = s.heap.push o) : GoneN s s' := by
  refine ⟨by rw [h, Heap.size_push]; exact Nat.le_succ _, fun p hp e => ?_⟩
  rw [h, Heap.get?_push_ne _ _ _ (Nat.ne_of_lt hp)]
  exact e
theorem GoneN.upd {s : Shared} {a : Addr} {f : Obj → Obj} {s' : Shared} (ha : (s.heap.get? a).isSome = true) (h : s'.heap = s.heap.update a f) : GoneN s s' := by
  refine ⟨by rw [h, Heap.size_update]; exact Nat.le_refl _, fun p hp e => ?_⟩
  have hne : a ≠ p := fun z => by rw [z, e] at ha; cases ha
  rw [h, Heap.get?_update_other _ _ hne]
  exact e
theorem runs_nb {M : Model} {Γ : Ctx} {p : Pos} {t : Sem PySem.Fin} {fs : List Frame} {s s' : Shared} {e : End} (h : Runs M Γ p t fs s e s') : GoneN s s' := by
  induction h with
  | done => exact .refl
  | raise => exact .refl
  | again _ _ ih => exact ih
  | rule _ ih => exact ih
  | «at» _ ih => exact ih
  | load _ _ ih => exact ih
  | update ha _ ih => exact (GoneN.upd ha rfl).trans ih
  | loadIfAlive _ ih => exact ih
  | point _ ih => exact ih
  | alloc _ ih => exact (GoneN.push rfl).trans ih
  | fresh _ ih => exact (GoneN.same rfl).trans ih
  | ask _ ih => exact ih
  | choose _ _ ih => exact (GoneN.same rfl).trans ih
  | os _ ih => exact (GoneN.same rfl).trans ih
  | handled _ ih => exact ih
  | genState _ _ ih => exact ih
  | stack _ ih => exact ih
  | thread _ ih => exact ih
  | newGen _ ih => exact (GoneN.same rfl).trans ih
  | call _ _ a b => exact a.trans b
  | callSusp _ a => exact a
  | yield => exact .refl
  | resumeFresh _ _ _ _ a b => exact ((GoneN.same rfl).trans a).trans ((GoneN.same rfl).trans b)
  | resumeSuspended _ _ _ _ a b => exact ((GoneN.same rfl).trans a).trans ((GoneN.same rfl).trans b)
  | resumeJustStarted _ _ _ a => exact a
  | resumeThrowFresh _ _ a => exact (GoneN.same rfl).trans a
  | resumeRunning _ _ a => exact a
  | resumeFinished _ _ a => exact a
  | segRet _ _ a b => exact a.trans b
  | segGen _ _ a b => exact a.trans ((GoneN.same rfl).trans b)
  | segSuspOut _ _ a => exact a
  | segSuspGen _ _ _ _ a b => exact a.trans ((GoneN.same rfl).trans b)
theorem wakes_nb {M : Model} {Γ : Ctx} {p : Pos} {g : Nat} {r : Resume} {s s' : Shared} {res : GenResult} (h : Wakes M Γ p g r s res s') : GoneN s s' := by
  unfold Wakes at h
  split at h
  · exact h.elim
  · split at h
    · obtain ⟨e, z, hr, _, _, rfl⟩ := h
      exact ((GoneN.same rfl).trans (runs_nb hr)).trans (GoneN.same rfl)
    · rw [h.2]; exact .refl
    · rw [h.2]; exact GoneN.same rfl
  · obtain ⟨e, z, hr, _, _, rfl⟩ := h
    exact ((GoneN.same rfl).trans (runs_nb hr)).trans (GoneN.same rfl)
  · rw [h.2]; exact .refl
  · rw [h.2]; exact .refl
theorem wp_nb {α : Type} (M : Model) (Γ : Ctx) (z : Shared) (t : Sem α) : ∀ (Q : α → Pos → Shared → Prop) (E : Value → Pos → Shared → Prop) (p : Pos) (s : Shared), GoneN z s → Sem.wp M Γ t Q E p s →
    Sem.wp M Γ t (fun a q y => GoneN z y ∧ Q a q y) (fun a q y => GoneN z y ∧ E a q y) p s := by
  induction t with
  | pure a => intro Q E p s n h; exact ⟨n, h⟩
  | raise e => intro Q E p s n h; exact ⟨n, h⟩
  | unsupported _ => intro Q E p s _ h; exact h.elim
  | finish _ => intro Q E p s _ h; exact h.elim
  | rule _ k ih => intro Q E p s n h; exact ih () Q E p s n h
  | «at» q k ih => intro Q E p s n h; exact ih () Q E q s n h
  | load a _ k ih => intro Q E p s n h; obtain ⟨o, ho, h⟩ := h; exact ⟨o, ho, ih o Q E p s n h⟩
  | update a _ f k ih => intro Q E p s n h; exact ⟨h.1, ih () Q E p _ (n.trans (GoneN.upd h.1 rfl)) h.2⟩
  | loadIfAlive a k ih => intro Q E p s n h; exact ih _ Q E p s n h
  | point _ k ih => intro Q E p s n h; exact ih () Q E p s n h
  | register _ _ => intro Q E p s _ h; exact h.elim
  | alloc o k ih => intro Q E p s n h; exact ih _ Q E p _ (n.trans (GoneN.push rfl)) h
  | fresh k ih => intro Q E p s n h; exact ih _ Q E p _ (n.trans (GoneN.same rfl)) h
  | ask k ih => intro Q E p s n h; exact ih _ Q E p s n h
  | choose src m k ih => intro Q E p s n h; exact ⟨h.1, ih _ Q E p _ (n.trans (GoneN.same rfl)) h.2⟩
  | os q _ k ih => intro Q E p s n h; exact ih _ Q E p _ (n.trans (GoneN.same rfl)) h
  | call c hd _ _ k ih => intro Q E p s n h; obtain ⟨r, y, hr, h⟩ := h; exact ⟨r, y, hr, ih r Q E p y (n.trans (runs_nb hr)) h⟩
  | handled own k ih => intro Q E p s n h; exact ih _ Q E p s n h
  | genState g k ih => intro Q E p s n h; obtain ⟨st, hs, h⟩ := h; exact ⟨st, hs, ih _ Q E p s n h⟩
  | newGen c k ih => intro Q E p s n h; exact ih _ Q E p _ (n.trans (GoneN.same rfl)) h
  | resume g r _ k ih => intro Q E p s n h; obtain ⟨res, y, hw, h⟩ := h; exact ⟨res, y, hw, ih res Q E p y (n.trans (wakes_nb hw)) h⟩
  | yield _ _ _ _ => intro Q E p s _ h; exact h.elim
  | stack k ih => intro Q E p s n h; exact ih _ Q E p s n h
  | fork _ _ => intro Q E p s _ h; exact h.elim
  | thread k ih => intro Q E p s n h; exact ih _ Q E p s n h
  | await _ _ _ _ _ => intro Q E p s _ h; exact h.elim
theorem wpAny_nb {α : Type} {M : Model} {A : Around} {s : Shared} {t : Sem α} {Q : α → Shared → Prop} {E : Value → Shared → Prop} (h : wpAny M A t Q E s) : wpAny M A t (fun a y => GoneN s y ∧ Q a y) E s :=
  wpAny_mono (fun Γ p w => wp_nb M Γ s t _ _ p s .refl (h Γ p w) : wpAny M A t (fun a y => GoneN s y ∧ Q a y) (fun a y => GoneN s y ∧ E a y) s) (fun _ _ x => x) fun _ _ x => x.2
def cutH (n : Nat) (h : Heap) : Heap := { h with objs := (h.objs.toList.take n).toArray }
def cutS (n : Nat) (s : Shared) : Shared := { s with heap := cutH n s.heap }
theorem cut_get {n : Nat} {h : Heap} {a : Addr} : (cutH n h).get? a = if a < n then h.get? a else none := by
  have e : (cutH n h).objs[a]? = if a < n then h.objs[a]? else none := by
    show (h.objs.toList.take n).toArray[a]? = _
    rw [List.getElem?_toArray, List.getElem?_take, Array.getElem?_toList]
  unfold Heap.get?
  rw [e]
  by_cases hn : a < n
  · rw [if_pos hn, if_pos hn]
  · rw [if_neg hn, if_neg hn]
theorem cut_some {n : Nat} {h : Heap} {a : Addr} {o : Obj} (e : (cutH n h).get? a = some o) : a < n ∧ h.get? a = some o := by
  rw [cut_get] at e
  split at e
  · rename_i z; exact ⟨z, e⟩
  · cases e
theorem cut_of {n : Nat} {h : Heap} {a : Addr} {o : Obj} (hn : a < n) (e : h.get? a = some o) : (cutH n h).get? a = some o := by
  rw [cut_get, if_pos hn]; exact e
theorem cut_size {n : Nat} {h : Heap} (hn : n ≤ h.objs.size) : (cutH n h).objs.size = n := by
  show (h.objs.toList.take n).toArray.size = n
  rw [List.size_toArray, List.length_take, Array.length_toList]
  omega
structure GCt where
  P : Program
  w : World
  K : PySem.W.Frag
  mg : Str → Option Value
  base : Heap
  cm : CM
  N : List Str
  qual : Str
  scope : Scope
  f : Addr
  cd : Value
  outer : List Env
  n0 : Nat
  os : OsState
  k : Nat
  pn : List (Addr × Obj)
/-- a wake -/
structure GB where
  A : Around
  s : Shared
  S : Hp
  H : Hp
  U : List Nat
abbrev GCt.X (C : GCt) (b : GB) : Cx := gcxOf C.P C.w C.K C.mg C.base C.N C.qual C.scope C.f C.cd b.A C.outer (cutS C.n0 b.s) b.H noX C.pn
abbrev GCt.env (C : GCt) : Env := envOfC C.qual C.scope C.n0 C.f C.cd
abbrev GCt.cf (C : GCt) : Cf := cfE C.K C.cm false noX
structure GCt.Ok (C : GCt) (b : GB) : Prop where
  room : Room C.k (b.A.deeper C.env)
  fr : b.A.frames = some C.outer
  sz : C.n0 ≤ b.s.heap.objs.size
  os : b.s.os = C.os
theorem GCt.Ok.env {C : GCt} {b : GB} (h : C.Ok b) : (C.X b).env = C.env := by
  show envOfC C.qual C.scope (cutH C.n0 b.s.heap).objs.size C.f C.cd = _
  rw [cut_size h.sz]
theorem GCt.Ok.A {C : GCt} {b : GB} (h : C.Ok b) : (C.X b).A = b.A.deeper C.env := by
  show b.A.deeper (envOfC C.qual C.scope (cutH C.n0 b.s.heap).objs.size C.f C.cd) = _
  rw [cut_size h.sz]
/-- the entries of inner generators -/
def GlOk (b : GB) (gl : List (Nat × GenState)) (s : Shared) : Prop := b.s.gens.size ≤ s.gens.size ∧ ∀ q ∈ gl, s.gens[q.1]? = some q.2 ∧ isSus q.2 = true ∧ ngG q.2 ∧ (q.1 ∈ b.U ∨ b.s.gens.size ≤ q.1)
/-- the consumer's state as the generator is woken: what is pinned and what stands in the table is as it was -/
structure Wk (C : GCt) (b : GB) (pg : List (Addr × Obj)) (gl : List (Nat × GenState)) (S1 : Hp) : Prop where
  ok : C.Ok b
  e0 : Env0 C.P C.w C.K C.mg C.base b.A C.outer b.s b.H
  s : Ex S1 b.S
  h : Ex b.S b.H
  pin : ∀ q ∈ pg, b.s.heap.get? q.1 = some q.2 ∧ b.H q.1 = none
  gl : ∀ q ∈ gl, b.s.gens[q.1]? = some q.2 ∧ q.1 ∈ b.U
/-- what holds behind a stretch -/
structure Aft (C : GCt) (b : GB) (S1 H1 : Hp) (z : Shared) : Prop where
  fwd : Fwd b.S b.H S1 H1
  un : Un (frs C.outer) [] b.H H1 (cutH C.n0 b.s.heap) z.heap
  hok : HOk C.P C.w H1 z.heap
  os : z.os = C.os
  bare : AllBare z.gens
  gsz : b.s.gens.size ≤ z.gens.size
  pn : ∀ q ∈ C.pn, z.heap.get? q.1 = some q.2
/-- all that is still to be handed out; the end of a stretch -/
def Std (C : GCt) : List D → GB → End → Shared → Prop
  | [] => fun b e z => match e with
    | .ret r => r = .ok (.ret .none) ∧ ∃ S1 H1, Aft C b S1 H1 z
    | .susp _ _ _ _ _ _ _ => False
  | d :: ds => fun b e z => match e with
    | .ret _ => False
    | .susp v gd l k c p fs => (End.susp v gd l k c p fs).quiet = true ∧ ngF fs ∧ ∃ x S1 H1 pg gl, RelV x v ∧ Rp C.K C.cm S1 x d ∧ Aft C b S1 H1 z ∧
        (∀ q ∈ pg, z.heap.get? q.1 = some q.2 ∧ H1 q.1 = none ∧ C.n0 ≤ q.1 ∧ ∀ u, q.2.data ≠ .cell u) ∧ (∀ q ∈ C.pn, q ∈ pg) ∧ GlOk b gl z ∧
        ∀ b', Wk C b' pg gl S1 → GRun (model C.P C.w) b'.A (Std C ds b') c (k (.send .none)) fs b'.s
/-- amid a stretch -/
def GSt (C : GCt) (Sf : Hp) (b : GB) (ip : List (Addr × Obj)) (gl : List (Nat × GenState)) (G : List Ow) (r : Rho) (s : Shared) : Prop :=
  ∃ σ S H, Inv (C.X b) ip σ H s ∧ EnvOk C.cf b.S b.H G S H σ r ∧ GlOk b gl s ∧ (∀ q ∈ ip, C.n0 ≤ q.1) ∧ GoneN b.s s ∧ Ex Sf S
/-- a statement's end -/
def GOut (C : GCt) (Sf : Hp) (b : GB) (ip : List (Addr × Obj)) (gl : List (Nat × GenState)) (L G' : List Ow) (o : SR) (fl : Flow) (s : Shared) : Prop :=
  match o, fl with
  | .nx r, .next => GSt C Sf b ip gl G' r s
  | .bk r, .brk => GSt C Sf b ip gl L r s
  | .ct r, .cont => GSt C Sf b ip gl L r s
  | .rt d, .ret u => ∃ v σ S H, RelV v u ∧ Inv (C.X b) ip σ H s ∧ Fwd b.S b.H S H ∧ Rp C.K C.cm S v d ∧ b.s.gens.size ≤ s.gens.size
  | _, _ => False
def okO : SR → Prop
  | .er _ _ _ _ => False
  | .bad => False
  | _ => True
def GKon (C : GCt) (Sf : Hp) (ip : List (Addr × Obj)) (gl : List (Nat × GenState)) (L G' : List Ow) (o : SR) (ds : List D) (c : Code) (fs : List Frame) (K : Flow → Sem PySem.Fin) : Prop :=
  ∀ b s fl, C.Ok b → GOut C Sf b ip gl L G' o fl s → GRun (model C.P C.w) b.A (Std C ds b) c (K fl) fs s
/-- where the code stands -/
structure GPos (C : GCt) (c : Code) (fs : List Frame) (gd : Bool → Bool) : Prop where
  split : splitAtGen fs = none
  over : ∀ A : Around, A.over c fs = A.deeper C.env
  gd : gd false = false
  guard : fs.any Frame.guarded = false
/-- a statement, several, by data: what it hands out, how it ends -/
def GStm (C : GCt) (L G G' : List Ow) (st : Stmt) (F : Rho → List D × SR) : Prop :=
  ∀ Sf ip gl b s r ys o ds c fs K J gd lv, C.Ok b → GPos C c fs gd → F r = (ys, o) → okO o → GSt C Sf b ip gl G r s → GKon C Sf ip gl L G' o ds c fs K → GRun (model C.P C.w) b.A (Std C (ys ++ ds) b) c ((exec st C.env).wrap K J gd lv) fs s
def GStms (C : GCt) (L G G' : List Ow) (st : List Stmt) (F : Rho → List D × SR) : Prop :=
  ∀ Sf ip gl b s r ys o ds c fs K J gd lv, C.Ok b → GPos C c fs gd → F r = (ys, o) → okO o → GSt C Sf b ip gl G r s → GKon C Sf ip gl L G' o ds c fs K → GRun (model C.P C.w) b.A (Std C (ys ++ ds) b) c ((execs st C.env).wrap K J gd lv) fs s
section
variable {C : GCt} {L G G' G'' : List Ow} {b : GB} {c : Code} {fs : List Frame} {gd : Bool → Bool}
/-- an exception: there is none -/
theorem gx {Φ : End → Shared → Prop} {x : Value} {z s : Shared} {t : Sem PySem.Fin} (ok : C.Ok b) (pos : GPos C c fs gd) (h : (C.X b).xe x z) : GRun (model C.P C.w) b.A Φ c t fs s := by
  refine gr_false (m := leaving (C.X b).env x) (z := z) ?_
  rw [pos.over, ← ok.A]
  refine wpAny_mono (show wpAny (model C.P C.w) (C.X b).A (leaving (C.X b).env x) (fun _ y => CX C.P C.w C.outer b.H (cutS C.n0 b.s) noX x y ∧ ∀ p ∈ C.pn, y.heap.get? p.1 = some p.2) (fun _ _ => False) z from h) (fun _ y q => ?_) fun _ _ q => q
  obtain ⟨⟨_, _, _, _, _, _, _, _, _, _, _, _, q⟩, _⟩ := q
  exact q
theorem _root_.L2.Inv.gens {X : Cx} {pins : List (Addr × Obj)} {σ : L2.St} {H : Hp} {s : Shared} {a : Array GenState} (I : Inv X pins σ H s) (h : AllBare a) : Inv X pins σ H { s with gens := a } :=
  ⟨I.ok, I.os, h, I.base, I.loc, I.cell, I.free, I.freeC, I.pin, I.hok, I.len⟩
theorem _root_.L2.Inv.deadG {X : Cx} {pins : List (Addr × Obj)} {σ : L2.St} {H : Hp} {s : Shared} (I : Inv X pins σ H s) (U : Nat → Prop) : Inv X pins σ H (dead U s) := I.gens (dead_bare I.bare)
theorem _root_.L2.Inv.restG {X : Cx} {pins : List (Addr × Obj)} {σ : L2.St} {H : Hp} {s s2 : Shared} {U : Nat → Prop} (I : Inv X pins σ H s2) (d : DeadAt (sleeps U s.gens) s2) (h : AllBare s.gens) : Inv X pins σ H (rest (sleeps U s.gens) s2) := I.gens (back_bare d h I.bare)
/-- a piece of the context's own: the sleeping ones stay -/
theorem piece {α : Type} {X : Cx} {M : Model} {m : Sem α} {s : Shared} {Q : α → Shared → Prop} {E : Value → Shared → Prop} (hb : AllBare s.gens) (h : wpAny M X.A m Q E (dead (fun _ => False) s)) :
    wpAny M X.A m (fun a s' => ∃ s2, s' = rest (sleeps (fun _ => False) s.gens) s2 ∧ DeadAt (sleeps (fun _ => False) s.gens) s2 ∧ Q a s2 ∧ KeptG (fun _ => False) s s' ∧ s.gens.size ≤ s'.gens.size ∧ GoneN s s')
      (fun x s' => ∃ s2, s' = rest (sleeps (fun _ => False) s.gens) s2 ∧ DeadAt (sleeps (fun _ => False) s.gens) s2 ∧ ngs s2.gens ∧ E x s2) s := by
  have hsz : (dead (fun _ => False) s).gens.size = s.gens.size := by
    show (s.gens.mapIdx _).size = _
    rw [Array.size_mapIdx]
  have h1 : wpAny M X.A m (fun a z => (s.gens.size ≤ z.gens.size ∧ GoneN s z) ∧ Q a z) E (dead (fun _ => False) s) := by
    have z := wpAny_nb h
    refine wpAny_gsz (n := s.gens.size) (by rw [hsz]; exact Nat.le_refl _) (wpAny_mono z (fun a y q k => ⟨⟨k, ?_⟩, q.2⟩) fun _ _ q _ => q)
    exact (GoneN.same rfl).trans q.1
  refine wpAny_kept (fun _ => False) (fun _ _ z => z.elim) h1 (fun a s2 d n q k => ?_) fun x s2 d n q k => ⟨s2, rfl, d, n, q⟩
  exact ⟨s2, rfl, d, q.2, k, by rw [rest_size]; exact q.1.1, q.1.2.trans (GoneN.same rfl)⟩
theorem GlOk.kept {gl : List (Nat × GenState)} {s s' : Shared} (h : GlOk b gl s) (k : KeptG (fun _ => False) s s') (hs : s.gens.size ≤ s'.gens.size) : GlOk b gl s' :=
  ⟨Nat.le_trans h.1 hs, fun q hq => let ⟨h1, h2, h3, h4⟩ := h.2 q hq; ⟨k q.1 q.2 (fun z => z) h1 h2, h2, h3, h4⟩⟩
theorem gss_nil : GStms C L G G [] (fun r => ([], .nx r)) := by
  intro Sf ip gl b s r ys o ds c fs K J gd lv ok pos hF oo hs kon
  cases hF
  exact gr_nil (kon b s .next ok hs)
def seqG (F K : Rho → List D × SR) : Rho → List D × SR := fun r => match F r with
  | (ys, .nx r') => (ys ++ (K r').1, (K r').2)
  | x => x
theorem gss_cons {st : Stmt} {more : List Stmt} {F K : Rho → List D × SR} (h1 : GStm C L G G' st F) (h2 : GStms C L G' G'' more K) : GStms C L G G'' (st :: more) (seqG F K) := by
  intro Sf ip gl b s r ys o ds c fs K' J gd lv ok pos hF oo hs kon
  refine gr_cons ?_
  unfold seqG at hF
  cases q : F r with
  | mk ys1 o1 =>
    rw [q] at hF
    cases o1 with
    | nx r' =>
      dsimp only at hF
      obtain ⟨e1, e2⟩ := Prod.mk.inj hF
      rw [← e1, List.append_assoc]
      refine h1 Sf ip gl b s r ys1 (.nx r') _ c fs _ J gd lv ok pos q trivial hs fun b' s' fl ok' ho => ?_
      cases fl with
      | next => exact h2 Sf ip gl b' s' r' _ _ ds c fs K' J gd lv ok' pos rfl (by rw [e2]; exact oo) ho (by rw [e2]; exact kon)
      | _ => exact ho.elim
    | rt d =>
      cases hF
      refine h1 Sf ip gl b s r _ _ ds c fs _ J gd lv ok pos q trivial hs fun b' s' fl ok' ho => ?_
      cases fl with
      | ret u => exact kon b' s' _ ok' ho
      | _ => exact ho.elim
    | bk r' =>
      cases hF
      refine h1 Sf ip gl b s r _ _ ds c fs _ J gd lv ok pos q trivial hs fun b' s' fl ok' ho => ?_
      cases fl with
      | brk => exact kon b' s' _ ok' ho
      | _ => exact ho.elim
    | ct r' =>
      cases hF
      refine h1 Sf ip gl b s r _ _ ds c fs _ J gd lv ok pos q trivial hs fun b' s' fl ok' ho => ?_
      cases fl with
      | cont => exact kon b' s' _ ok' ho
      | _ => exact ho.elim
    | er r' n ns vs => cases hF; exact oo.elim
    | bad => cases hF; exact oo.elim
def liftG {α : Type} (x : Res α) (k : α → List D × SR) : List D × SR := match x with
  | .ok a => k a
  | _ => ([], .bad)
def ifG (t : Rho → Res Bool) (F K : Rho → List D × SR) : Rho → List D × SR := fun r => liftG (t r) fun a => if a = true then F r else K r
/-- a test in a generator -/
theorem test_run {cnd : Expr} {t : Rho → Res Bool} {Sf : Hp} {ip : List (Addr × Obj)} {gl : List (Nat × GenState)} {s : Shared} {r : Rho} {a : Bool} (h : ∀ b, C.Ok b → PT (C.X b) cnd (tT C.cf G t)) (ok : C.Ok b) (ht : t r = .ok a) (hs : GSt C Sf b ip gl G r s) :
    wpAny (model C.P C.w) (b.A.deeper C.env) (isTrue cnd C.env (eval cnd C.env)) (fun x s' => x = a ∧ GSt C Sf b ip gl G r s') (fun x _ => ∃ z, (C.X b).xe x z) s := by
  obtain ⟨σ, S, H, I, e, g, hip, nb, hf⟩ := hs
  rw [← ok.A, ← ok.env]
  refine wpAny_mono (piece I.bare ((h b ok).run ip _ σ H (fun x H' => x = a ∧ ∃ S', Fwd S H S' H') (I.deadG _) ⟨b.S, b.H, S, r, e, ?_⟩)) (fun x s' q => ?_) fun x s' q => ?_
  · rw [ht]
    exact fun S' H' f y hy => ⟨hy, S', f⟩
  · obtain ⟨s2, e2, d, ⟨H', I', hx, S', f⟩, k, hsz, nb2⟩ := q
    exact ⟨hx, σ, S', H', by rw [e2]; exact I'.restG d I.bare, e.go f, g.kept k hsz, hip, nb.trans nb2, hf.trans f.s⟩
  · obtain ⟨s2, _, _, _, q⟩ := q
    exact ⟨s2, q⟩
theorem gs_if {cnd : Expr} {body orelse : List Stmt} {pos : Pos} {t : Rho → Res Bool} {F K : Rho → List D × SR} (h : ∀ b, C.Ok b → PT (C.X b) cnd (tT C.cf G t)) (h1 : GStms C L G G' body F) (h2 : GStms C L G G' orelse K) : GStm C L G G' (.If cnd body orelse pos) (ifG t F K) := by
  intro Sf ip gl b s r ys o ds c fs K' J gd lv ok pos hF oo hs kon
  unfold ifG liftG at hF
  cases ht : t r with
  | err n ns vs => rw [ht] at hF; cases hF; exact oo.elim
  | bad => rw [ht] at hF; cases hF; exact oo.elim
  | ok a =>
    rw [ht] at hF
    refine gr_if (Xe := fun x _ => ∃ z, (C.X b).xe x z) (fun x z t ⟨y, q⟩ => gx ok pos q) ?_
    rw [pos.over]
    refine wpAny_mono (test_run h ok ht hs) (fun x s' ⟨hx, q⟩ => ?_) fun _ _ q => q
    subst hx
    cases x with
    | true => exact h1 Sf ip gl b s' r ys o ds c fs K' J gd lv ok pos hF oo q kon
    | false => exact h2 Sf ip gl b s' r ys o ds c fs K' J gd lv ok pos hF oo q kon
theorem gpos_loop {d : Code} {k : Result → Sem PySem.Fin} {l kp : List Value} {p : Pos} (pos : GPos C c fs gd) (hw : d.weight = 0) (hu : d.cUnits = 0) : GPos C d (.ret k none false l c p kp :: fs) id where
  split := by
    show (splitAtGen fs).map _ = none
    rw [pos.split]
    rfl
  over := fun A => (over_loop hw hu).trans (pos.over A)
  gd := rfl
  guard := by
    show (false || fs.any Frame.guarded) = false
    rw [pos.guard]
    rfl
end
end Dx
end S_DxBW
section S_DxBX
set_option Elab.async false
set_option linter.all false
set_option maxRecDepth 100000
set_option maxHeartbeats 2000000
namespace Dx
open PySem L2
open PyProof.Rows hiding St
open GenW
/-- no names of this def stand in cells -/
def NoCell (sc : Scope) : Prop := ∀ y ∈ sc.names, y.2 ≠ .cell ∧ y.2 ≠ .free
theorem nocells : ∀ (n : Nat) (l : List (Str × NameKind)), (∀ y ∈ l, y.2 ≠ .cell ∧ y.2 ≠ .free) → cellsFrom n l [] = []
  | _, [], _ => rfl
  | n, (x, k) :: l, h => by
    have hk := (h (x, k) List.mem_cons_self).1
    unfold cellsFrom
    cases k with
    | cell => exact absurd rfl hk
    | _ => exact nocells n l fun y hy => h y (List.mem_cons_of_mem _ hy)
theorem NoCell.not {sc : Scope} (h : NoCell sc) {x : Str} (q : sc.names.lookup x = some .cell ∨ sc.names.lookup x = some .free) : False := by
  rcases q with q | q
  · exact (h _ (PySem.mem_of_lookup q)).1 rfl
  · exact (h _ (PySem.mem_of_lookup q)).2 rfl
/-- without the objects at O; with them put back -/
noncomputable def hide (O : Addr → Prop) (H : Hp) : Hp := fun a => @ite _ (O a) (Classical.propDecidable _) none (H a)
noncomputable def putB (O : Addr → Prop) (H1 H : Hp) : Hp := fun a => @ite _ (O a) (Classical.propDecidable _) (H1 a) (H a)
section
variable {O : Addr → Prop} {H H1 : Hp} {a : Addr}
theorem hide_in (h : O a) : hide O H a = none := by unfold hide; exact if_pos h
theorem hide_out (h : ¬ O a) : hide O H a = H a := by unfold hide; exact if_neg h
theorem hide_some {o : HO} (h : hide O H a = some o) : ¬ O a ∧ H a = some o := by
  by_cases z : O a
  · rw [hide_in z] at h; cases h
  · exact ⟨z, by rw [hide_out z] at h; exact h⟩
theorem hide_none (h : H a = none) : hide O H a = none := by
  by_cases z : O a
  · exact hide_in z
  · rw [hide_out z]; exact h
theorem put_in (h : O a) : putB O H1 H a = H1 a := by unfold putB; exact if_pos h
theorem put_out (h : ¬ O a) : putB O H1 H a = H a := by unfold putB; exact if_neg h
end
theorem funFrames_cut {h h' base : Heap} {n : Nat} : ∀ {l : List Env}, (cutH n h).FunFrames base l → h'.FunFrames base l → (cutH n h').FunFrames base l
  | [], _, _ => trivial
  | env :: l, ⟨_, ⟨L, o, hf, hn, ho, hd⟩, r⟩, ⟨k', ⟨L', o', hf', hn', ho', hd'⟩, r'⟩ => by
    have : L' = L := by rw [hf] at hf'; exact (Option.some.inj hf').symm
    subst this
    exact ⟨k', ⟨L', o', hf', hn', cut_of (cut_some ho).1 ho', hd'⟩, funFrames_cut r r'⟩
/-- a list or a dict -/
def isLK : HO → Prop
  | .lst _ => True
  | .dK _ => True
  | _ => False
theorem isLK.pl {ho : HO} (l : isLK ho) : Pl ho := by
  cases ho with
  | lst xs => exact .lst
  | dK kvs => exact .dK
  | _ => exact l.elim
theorem isLK.at {P : Program} {w : World} {H H' : Hp} {h h' : Heap} {a : Addr} {ho : HO} (l : isLK ho) (x : ObjOk P w H h a ho) (k : ∀ o, h.get? a = some o → h'.get? a = some o) : ObjOk P w H' h' a ho := by
  cases ho with
  | lst xs => obtain ⟨z, its, n, r, e⟩ := x; exact ⟨z, its, n, r, k _ e⟩
  | dK kvs => obtain ⟨z, y, vs, r, ob, es, ep, e, c⟩ := x; exact ⟨z, y, vs, r, ob, es, ep, k _ e, c⟩
  | _ => exact l.elim
theorem isLK.obj {P : Program} {w : World} {H : Hp} {h : Heap} {a : Addr} {ho : HO} (l : isLK ho) (x : ObjOk P w H h a ho) : ∃ o, h.get? a = some o ∧ ∀ v, o.data ≠ .cell v := by
  cases ho with
  | lst xs => obtain ⟨z, its, n, r, e⟩ := x; exact ⟨_, e, fun v q => by cases q⟩
  | dK kvs => obtain ⟨z, y, vs, r, ob, es, ep, e, _, d, _⟩ := x; exact ⟨_, e, fun v q => by rw [d] at q; cases q⟩
  | _ => exact l.elim
section
variable {C : GCt} {L G G' : List Ow} {b b' : GB}
theorem GCt.Ok.loc (h : C.Ok b) : (C.X b).env.locals = C.n0 := cut_size h.sz
/-- the context of a later wake: what was the generator's own stands as it stood -/
theorem inv_wake {ip : List (Addr × Obj)} {σ : L2.St} {H1 : Hp} {z : Shared} {O : Addr → Prop} (hsc : NoCell C.scope) (ok : C.Ok b) (ok' : C.Ok b') (I : Inv (C.X b) ip σ H1 z) (e0 : Env0 C.P C.w C.K C.mg C.base b'.A C.outer b'.s b'.H)
    (pins : ∀ q ∈ C.pn ++ ip, b'.s.heap.get? q.1 = some q.2 ∧ b'.H q.1 = none) (ns : ∀ o, z.heap.get? C.n0 = some o → b'.s.heap.get? C.n0 = some o ∧ b'.H C.n0 = none)
    (own : ∀ p, O p → C.n0 ≤ p ∧ b'.H p = none ∧ (∃ ho, H1 p = some ho ∧ isLK ho) ∧ ∀ o, z.heap.get? p = some o → b'.s.heap.get? p = some o) : Inv (C.X b') ip σ (putB O H1 b'.H) b'.s := by
  have hL := ok.loc
  have hL' := ok'.loc
  have cs : cutH C.n0 b.s.heap = (cutS C.n0 b.s).heap := rfl
  have bsz : C.base.objs.size ≤ C.n0 := by
    have q : C.base.objs.size ≤ (cutH C.n0 b.s.heap).objs.size := I.ok.bsz
    rw [cut_size ok.sz] at q
    exact q
  obtain ⟨m, hn, hv⟩ := I.loc
  rw [hL] at hn
  have hlo := I.free
  rw [hL] at hlo
  have noO : ∀ a, H1 a = none → ¬ O a := fun a h q => by
    obtain ⟨_, _, ⟨ho, h2, _⟩, _⟩ := own a q
    rw [h] at h2; cases h2
  have hns : ∃ o, z.heap.get? C.n0 = some o := by
    obtain ⟨o, es, ep, e, _⟩ := hn
    exact ⟨o, e⟩
  obtain ⟨ons, hons⟩ := hns
  have noc : ∀ (B : GB) x c, (C.X B).env.cells.lookup x = some c → False := fun B x c h => by
    have e : (C.X B).env.cells = cellsFrom ((cutH C.n0 B.s.heap).objs.size + 1) C.scope.names [] := rfl
    rw [e, nocells _ _ hsc] at h
    cases h
  refine ⟨⟨e0.mod, I.ok.kind, rfl, rfl, Nat.le_refl _, fun x y c h => (noc _ _ _ h).elim, fun x h => (hsc.not h).elim, fun x c _ h => (noc _ _ _ h).elim, fun _ => ok'.room.hd, Around.frames_deeper e0.frames, .inr ⟨rfl, rfl⟩, fun q hq => absurd (show q ∈ ([] : List Addr) from hq) (by simp), fun q o e => ?_, ?_, fun q o e hq => absurd (show q ∈ ([] : List Addr) from hq) (by simp), fun q hq => absurd (show q ∈ ([] : List Addr) from hq) (by simp), ?_, e0.frf⟩, rfl, e0.bare, ?_, ?_, fun x c h => (noc _ _ _ h).elim, ?_, fun x c h => (noc _ _ _ h).elim, fun q hq => ?_, ?_, I.len⟩
  · obtain ⟨h1, h2⟩ := e0.bs q o e
    exact ⟨cut_of (Nat.lt_of_lt_of_le (Heap.lt_size e) bsz) h1, h2⟩
  · show C.base.objs.size ≤ (cutH C.n0 b'.s.heap).objs.size
    rw [cut_size ok'.sz]
    exact bsz
  · exact funFrames_cut (h := b.s.heap) I.ok.funs e0.funs
  · refine ⟨fun q o e _ _ _ => (cut_some e).2, fun q o e _ _ _ => ⟨o.slots, (cut_some e).2⟩, fun q o e hq _ => ?_, fun q o e _ => ⟨o, (cut_some e).2⟩, fun q xs e => ?_, fun q o u e => ?_, fun q ps e => ?_⟩
    · have : ¬ O q := fun h => by
        exact absurd (cut_some e).1 (Nat.not_lt.mpr (own q h).1)
      rw [put_out this]; exact hq
    · have : ¬ O q := fun h => by
        have h2 := (own q h).2.1
        rw [show b'.H q = some (.tup xs) from e] at h2; cases h2
      rw [put_out this]; exact e
    · have : ¬ O q := fun h => by
        have h2 := (own q h).2.1
        rw [show b'.H q = some (.frz o u) from e] at h2; cases h2
      rw [put_out this]; exact e
    · have : ¬ O q := fun h => by
        have h2 := (own q h).2.1
        rw [show b'.H q = some (.tbl ps) from e] at h2; cases h2
      refine ⟨#[], ?_⟩
      rw [put_out this, show b'.H q = some (.tbl ps) from e]
      simp
  · refine ⟨m, ?_, fun i x v h1 h2 h3 => ?_⟩
    · rw [hL']
      exact hn.at fun o e => (ns o e).1
    · obtain ⟨u, r, l⟩ := hv i x v h1 h2 h3
      refine ⟨u, r, ?_⟩
      rcases l with ⟨l1, l2⟩ | ⟨_, c, l2, _⟩
      · exact .inl ⟨l1, l2⟩
      · exact (noc b _ _ l2).elim
  · show putB O H1 b'.H (C.X b').env.locals = none
    rw [hL', put_out (noO _ hlo)]
    exact (ns _ hons).2
  · obtain ⟨p1, p2, p3, p4, p5⟩ := I.pin q hq
    obtain ⟨q1, q2⟩ := pins q hq
    refine ⟨q1, ?_, ?_, p4, p5⟩
    · rw [put_out (noO _ p2)]; exact q2
    · rw [hL']
      rw [hL] at p3
      exact p3
  · intro a o e
    by_cases ha : O a
    · rw [put_in ha] at e
      obtain ⟨_, _, ⟨ho, h2, h3⟩, h4⟩ := own a ha
      rw [e] at h2
      cases h2
      exact h3.at (I.hok a o e) h4
    · rw [put_out ha] at e
      refine (e0.hok a o e).stay (fun _ _ _ q => q) (fun q h => ?_) fun q xs h => ?_
      · have : ¬ O q := fun z => by
          have h2 := (own q z).2.1
          rw [h] at h2; cases h2
        rw [put_out this]; exact h
      · have : ¬ O q := fun z => by
          have h2 := (own q z).2.1
          rw [h] at h2; cases h2
        rw [put_out this]; exact h
/-- own lists and dicts -/
def isLD : D → Bool
  | .lst _ => true
  | .dk _ _ => true
  | _ => false
def ownsOk : List Ow → Rho → Bool
  | .o :: G, some d :: r => isLD d && ownsOk G r
  | _ :: G, _ :: r => ownsOk G r
  | _, _ => true
theorem ownsOk.get : ∀ {G : List Ow} {r : Rho} {i : Nat} {d : D}, ownsOk G r = true → kd G i = .o → r[i]? = some (some d) → isLD d = true
  | [], _, i, d, _, h, _ => by
    have : kd [] i = .v := by simp [kd]
    rw [this] at h; cases h
  | _ :: _, [], i, d, _, _, h => by simp at h
  | k :: G, x :: r, 0, d, h, hk, hr => by
    have hk : k = .o := hk
    have hr : x = some d := by simpa using hr
    subst hk hr
    unfold ownsOk at h
    exact (Bool.and_eq_true_iff.mp h).1
  | k :: G, x :: r, i + 1, d, h, hk, hr => by
    have hk : kd G i = .o := by
      show G.getD i .v = .o
      have : (k :: G).getD (i + 1) .v = .o := hk
      simpa using this
    have hr : r[i]? = some (some d) := by simpa using hr
    refine ownsOk.get (i := i) (G := G) (r := r) ?_ hk hr
    cases k with
    | o =>
      cases x with
      | none => exact h
      | some y => exact (Bool.and_eq_true_iff.mp h).2
    | _ => exact h
def yieldG (G : List Ow) (f : Rho → Res D) : Rho → List D × SR := fun r => liftG (f r) fun d => if ownsOk G r = true then ([d], .nx r) else ([], .bad)
def IsOwn (G : List Ow) (σ : L2.St) (r : Rho) (p : Addr) : Prop := ∃ i d, kd G i = .o ∧ r[i]? = some (some d) ∧ σ[i]? = some (some (.ref p))
/-- the own objects as they stand -/
def ownPins (G : List Ow) (σ : L2.St) (r : Rho) (h : Heap) : List (Addr × Obj) := (List.range r.length).filterMap fun i => match kd G i, r[i]?, σ[i]? with
  | .o, some (some _), some (some (.ref p)) => (h.get? p).map fun o => (p, o)
  | _, _, _ => none
theorem ownPins_mem {σ : L2.St} {r : Rho} {h : Heap} {p : Addr} {o : Obj} (x : IsOwn G σ r p) (e : h.get? p = some o) : (p, o) ∈ ownPins G σ r h := by
  obtain ⟨i, d, h1, h2, h3⟩ := x
  refine List.mem_filterMap.mpr ⟨i, List.mem_range.mpr (List.getElem?_eq_some_iff.mp h2).1, ?_⟩
  rw [h1, h2, h3]
  dsimp only
  rw [e]
  rfl
theorem of_ownPins {σ : L2.St} {r : Rho} {h : Heap} {q : Addr × Obj} (x : q ∈ ownPins G σ r h) : IsOwn G σ r q.1 ∧ h.get? q.1 = some q.2 := by
  obtain ⟨i, _, e⟩ := List.mem_filterMap.mp x
  split at e
  · rename_i d p h1 h2 h3
    cases q2 : h.get? p with
    | none => rw [q2] at e; cases e
    | some o =>
      rw [q2] at e
      cases e
      exact ⟨⟨i, d, h1, h2, h3⟩, q2⟩
  · cases e
theorem gs_yield {e : Expr} {yp pos : Pos} {f : Rho → Res D} (hk : ∀ i, kd G i = .v ∨ kd G i = .o) (hsc : NoCell C.scope) (hpn : ∀ q ∈ C.pn, C.n0 ≤ q.1) (hco : C.scope.isCoroutine = false) (he : ∀ b, C.Ok b → PE (C.X b) e (tV C.cf G f)) (hi : interactive C.env = false := by rfl) :
    GStm C L G G (.Expr (.Yield (some e) yp) pos) (yieldG G f) := by
  intro Sf ip gl b s r ys o ds c fs K J gd lv ok pos hF oo hs kon
  unfold yieldG liftG at hF
  cases hf : f r with
  | err n ns vs => rw [hf] at hF; cases hF; exact oo.elim
  | bad => rw [hf] at hF; cases hF; exact oo.elim
  | ok d =>
    rw [hf] at hF
    dsimp only at hF
    by_cases hw : ownsOk G r = true
    case neg => rw [if_neg hw] at hF; cases hF; exact oo.elim
    rw [if_pos hw] at hF
    cases hF
    obtain ⟨σ, S, H, I, ev, g, hip, nb, hfl⟩ := hs
    refine gr_yieldS (Xe := fun x _ => ∃ z, (C.X b).xe x z) (fun x z t ⟨y, q⟩ => gx ok pos q) pos.split pos.gd ?_ hco hi
    rw [pos.over, ← ok.A, ← ok.env]
    refine wpAny_mono (piece I.bare ((he b ok).run ip _ σ H (fun v H' => ∃ S', Fwd S H S' H' ∧ Rp C.K C.cm S' v d) (I.deadG _) ⟨b.S, b.H, S, r, ev, ?_⟩)) (fun v z q => ?_) fun x z q => ?_
    · rw [hf]
      exact fun S' H' fw v hv => ⟨S', fw, hv⟩
    rotate_left
    · obtain ⟨s2, _, _, _, q⟩ := q
      exact ⟨s2, q⟩
    obtain ⟨s2, e2, dd, ⟨x, H1, I1, rv, S1, f1, hx⟩, k, hsz, nb2⟩ := q
    intro l k' p hk'
    have I' : Inv (C.X b) ip σ H1 z := by rw [e2]; exact I1.restG dd I.bare
    have e1 := ev.go f1
    have nz := nb.trans nb2
    have hL := ok.loc
    obtain ⟨m, hn, _⟩ := I'.loc
    rw [hL] at hn
    have hlo := I'.free
    rw [hL] at hlo
    obtain ⟨ons, hons, hnd⟩ : ∃ o, z.heap.get? C.n0 = some o ∧ ∀ u, o.data ≠ .cell u := by
      obtain ⟨o, es, ep, q1, q2, _⟩ := hn
      exact ⟨o, q1, fun u q => by rw [q2] at q; cases q⟩
    have own : ∀ a, IsOwn G σ r a → C.n0 ≤ a ∧ b.H a = none ∧ S1 a = none ∧ ∃ ho, H1 a = some ho ∧ isLK ho := by
      rintro a ⟨i, d', h1, h2, h3⟩
      obtain ⟨p', ho, s1, s2', s3, s4, s5⟩ := e1.own h1 h2
      rw [h3] at s1
      cases s1
      have hl : isLK ho := by
        have := ownsOk.get hw h1 h2
        cases s5 with
        | lst _ => trivial
        | dk _ _ => trivial
        | dt _ _ => cases this
        | dn _ _ _ => cases this
        | obj _ _ _ => cases this
      refine ⟨?_, s4, s3, ho, s2', hl⟩
      apply Classical.byContradiction
      intro hlt
      have hlt : a < C.n0 := Nat.lt_of_not_le hlt
      obtain ⟨o1, ho1, _⟩ := hl.obj (I'.hok a ho s2')
      cases q : b.s.heap.get? a with
      | none =>
        have := nz.2 a (Nat.lt_of_lt_of_le hlt ok.sz) q
        rw [this] at ho1; cases ho1
      | some o2 =>
        have := I'.base.free a o2 (cut_of hlt q) s4 fun z1 => absurd (show a ∈ ([] : List Addr) from z1) (by simp)
        rw [s2'] at this; cases this
    have keepO : ∀ a o, b.H a = some o → ¬ IsOwn G σ r a := fun a o h q => by
      have := (own a q).2.1
      rw [h] at this; cases this
    have aft : Aft C b S1 (hide (IsOwn G σ r) H1) z := by
      refine ⟨⟨e1.fwd.s, fun a o h => ?_, fun a o h => ?_, e1.fwd.new, e1.fwd.tb.trans (Tk.butP (O := IsOwn G σ r) (fun a h => by
          obtain ⟨_, _, _, ho, z1, z2⟩ := own a h
          exact ⟨ho, z1, z2.pl⟩) fun a u h z => by rw [hide_out h]; exact z)⟩, ⟨I'.base.keep, I'.base.slot, fun a o h1 h2 h3 => hide_none (I'.base.free a o h1 h2 h3), I'.base.there, fun a xs h => ?_, fun a o u h => ?_, fun a ps h => ?_⟩, fun a o h => ?_, I'.os.trans ok.os, I'.bare, Nat.le_trans g.1 hsz, fun q hq => (I'.pin q (List.mem_append_left _ hq)).1⟩
      · exact (e1.fwd.h a o h).at (hide_out (keepO a o h))
      · have : ¬ IsOwn G σ r a := fun q => by
          have := (own a q).2.2.1
          rw [h] at this; cases this
        exact (e1.fwd.sub a o h).at (hide_out this)
      · rw [hide_out (keepO a _ h)]; exact I'.base.tups a xs h
      · rw [hide_out (keepO a _ h)]; exact I'.base.frzs a o u h
      · rw [hide_out (keepO a _ h)]; exact I'.base.tbls a ps h
      · obtain ⟨h1, h2⟩ := hide_some h
        refine (I'.hok a o h2).stay (fun _ _ _ q => q) (fun q h3 => ?_) fun q xs h3 => ?_
        · have : ¬ IsOwn G σ r q := fun z1 => by
            obtain ⟨_, _, _, ho, z2, z3⟩ := own q z1
            rw [h3] at z2; cases z2; exact z3
          rw [hide_out this]; exact h3
        · have : ¬ IsOwn G σ r q := fun z1 => by
            obtain ⟨_, _, _, ho, z2, z3⟩ := own q z1
            rw [h3] at z2; cases z2; exact z3
          rw [hide_out this]; exact h3
    refine ⟨?_, ngF.of_split pos.split, x, S1, hide (IsOwn G σ r) H1, (C.pn ++ ip) ++ ((C.n0, ons) :: ownPins G σ r z.heap), gl, rv, hx, aft, fun q hq => ?_, fun q hq => List.mem_append_left _ (List.mem_append_left _ hq), g.kept k hsz, fun b' wk => ?_⟩
    · show (!(false || fs.any Frame.guarded)) = true
      rw [pos.guard]
      rfl
    · rcases List.mem_append.mp hq with hq | hq
      · obtain ⟨p1, p2, p3, p4, p5⟩ := I'.pin q hq
        refine ⟨p1, hide_none p2, ?_, p5⟩
        rcases List.mem_append.mp hq with hq | hq
        · exact hpn q hq
        · exact hip q hq
      · rcases List.mem_cons.mp hq with hq | hq
        · subst hq
          exact ⟨hons, hide_none hlo, Nat.le_refl _, hnd⟩
        · obtain ⟨h1, h2⟩ := of_ownPins hq
          obtain ⟨h3, _, _, ho, h4, h5⟩ := own _ h1
          refine ⟨h2, hide_in h1, h3, ?_⟩
          obtain ⟨o1, z1, z2⟩ := h5.obj (I'.hok _ ho h4)
          rw [h2] at z1
          cases z1
          exact z2
    · rw [hk']
      have wo : ∀ a o, IsOwn G σ r a → z.heap.get? a = some o → b'.s.heap.get? a = some o ∧ b'.H a = none := fun a o h1 h2 => wk.pin (a, o) (List.mem_append_right _ (List.mem_cons_of_mem _ (ownPins_mem h1 h2)))
      have wn : ∀ a, IsOwn G σ r a → b'.H a = none := fun a h1 => by
        obtain ⟨_, _, _, ho, h4, h5⟩ := own a h1
        obtain ⟨o1, z1, _⟩ := h5.obj (I'.hok _ ho h4)
        exact (wo a o1 h1 z1).2
      have wS : ∀ a, IsOwn G σ r a → b'.S a = none := fun a h1 => wk.h.nn (wn a h1)
      have atP : ∀ a o, b'.H a = some o → putB (IsOwn G σ r) H1 b'.H a = some o := fun a o h => by
        have : ¬ IsOwn G σ r a := fun z1 => by
          rw [wn a z1] at h; cases h
        rw [put_out this]; exact h
      have exP : Ex b'.H (putB (IsOwn G σ r) H1 b'.H) := fun a o h => .mk (atP a o h)
      refine kon b' b'.s .next wk.ok ⟨σ, b'.S, putB (IsOwn G σ r) H1 b'.H, ?_, ?_, ?_, hip, .refl, (hfl.trans f1.s).trans wk.s⟩
      · refine inv_wake hsc ok wk.ok I' wk.e0 (fun q hq => wk.pin q (List.mem_append_left _ hq)) (fun o ho => ?_) fun a ha => ?_
        · rw [hons] at ho
          cases ho
          exact wk.pin (C.n0, ons) (List.mem_append_right _ List.mem_cons_self)
        · obtain ⟨h3, _, _, ho, h4, h5⟩ := own a ha
          exact ⟨h3, wn a ha, ⟨ho, h4, h5⟩, fun o1 z1 => (wo a o1 ha z1).1⟩
      · refine ⟨⟨Ex.refl, exP, wk.h.trans exP, fun a o h n => (by rw [n] at h; cases h), Tk.sub atP⟩, e1.len, fun i d' hd => ?_, fun i j d1 d2 p' => e1.sep i j d1 d2 p', ⟨[], .nil (fun i d' hd => ?_) (fun _ _ z => False.elim z)⟩⟩
        · obtain ⟨v', s1, s2'⟩ := e1.slot i d' hd
          refine ⟨v', s1, ?_⟩
          rcases hk i with hv | hv
          · rw [hv] at s2' ⊢
            exact Rp.mono wk.s s2'
          · rw [hv] at s2' ⊢
            obtain ⟨p', ho, y1, y2, y3, y4, y5⟩ := s2'
            subst y1
            have io : IsOwn G σ r p' := ⟨i, d', hv, hd, s1⟩
            exact ⟨p', ho, rfl, by rw [put_in io]; exact y2, wS p' io, wn p' io, y5.mono wk.s⟩
        · rcases hk i with hv | hv <;> rw [hv] <;> exact ⟨fun _ q => (by cases q), fun q => (by cases q)⟩
      · exact ⟨Nat.le_refl _, fun q hq => by
          obtain ⟨h1, h2⟩ := wk.gl q hq
          obtain ⟨_, h3, h4, _⟩ := (g.kept k hsz).2 q hq
          exact ⟨h1, h3, h4, .inl h2⟩⟩
end
end Dx
end S_DxBX
section S_DxBY
set_option Elab.async false
set_option linter.all false
set_option maxRecDepth 100000
set_option maxHeartbeats 2000000
namespace Dx
open PySem L2
open PyProof.Rows hiding St
open GenW
/-- what stands in the table hands out ds as soon as it is woken -/
def Asl (C : GCt) (ds : List D) (gs : GenState) (pg : List (Addr × Obj)) (gl : List (Nat × GenState)) (S1 : Hp) : Prop := ∀ b', Wk C b' pg gl S1 → GoG (model C.P C.w) b'.A (Std C ds b') gs b'.s
/-- a generator has just been made: u, at s', out of s -/
structure GMadeD (X : Cx) (cm : CM) (k : Nat) (s : Shared) (S H : Hp) (items : List D) (u : Value) (s' : Shared) : Prop where
  ex : ∃ (C : GCt) (a : Addr) (c : Code) (pg : List (Addr × Obj)) (go : Obj), u = .ref a ∧ (C.P = X.prog ∧ C.w = X.w ∧ C.K = X.K ∧ C.mg = X.mg ∧ C.base = X.base ∧ C.cm = cm ∧ C.outer = X.stack) ∧ C.n0 = s.heap.objs.size ∧ C.os = s.os ∧ (∀ A, Room k A → Room C.k (A.deeper C.env)) ∧ C.pn = [(a, go)] ∧
    s'.heap.IsGen a s.gens.size ∧ (∀ h : Heap, h.get? a = some go → h.IsGen a s.gens.size) ∧ s'.gens = s.gens.push (.fresh c) ∧ s'.os = s.os ∧ (∀ b o, s.heap.get? b = some o → s'.heap.get? b = some o) ∧
    (∀ q ∈ pg, s'.heap.get? q.1 = some q.2 ∧ C.n0 ≤ q.1 ∧ q.1 < s'.heap.objs.size ∧ ∀ v, q.2.data ≠ .cell v) ∧ (a, go) ∈ pg ∧ Asl C items (.fresh c) pg [] S
theorem cut_all (s : Shared) : cutS s.heap.objs.size s = s := by
  obtain ⟨⟨objs, life⟩, g, d, t, o⟩ := s
  show (⟨⟨(objs.toList.take objs.size).toArray, life⟩, g, d, t, o⟩ : Shared) = _
  rw [List.take_of_length_le (by simp)]
/-- by data: what the body hands out -/
def runGF (n : Nat) (Fb : Rho → List D × SR) (ds : List D) : Res (List D) := match Fb (startR n ds) with
  | (ys, .nx _) => .ok ys
  | (ys, .rt .non) => .ok ys
  | _ => .bad
theorem RpA.modes {c : Cf} {S H : Hp} : ∀ {vs : List V} {ds : List D}, RpA c.K c.cm S vs ds → RpM c S H (List.replicate vs.length false) vs ds
  | _, _, .nil => trivial
  | _, _, .cons h r => ⟨h, RpA.modes r⟩
/-- a generator def's promise, by data -/
structure GFnD (P : Program) (w : World) (K : PySem.W.Frag) (mg : Str → Option Value) (base : Heap) (cm : CM) (k : Nat) (f : Addr) (fd : FuncData) (ps : List Str) (F : List D → Res (List D)) : Prop where
  run : ∀ (X : Cx), X.prog = P → X.w = w → X.K = K → X.mg = mg → X.base = base → ∀ (s : Shared) (S H : Hp) (args : Args) (us : List Value) (vs : List V) (ds items : List D), Room k X.A → Env0 P w K mg base X.A X.stack s H → BindsTo s fd args (ps.zip us) → Vals vs us → vs.length = ps.length →
    Ex S H → RpA K cm S vs ds → F ds = .ok items → codeAny (model P w) X.A (.call (.ref f) args) (fun r s' => match r with | .ok (.ret u) => GMadeD X cm k s S H items u s' | _ => False) s
section
variable {P : Program} {w : World} {K : PySem.W.Frag} {mg : Str → Option Value} {base : Heap} {cm : CM}
/-- THE RULE for a generator def: its body by data -/
theorem dokG {x qual : Str} {st : Stmt} {f : Addr} {fd : FuncData} {N ps : List Str} {k : Nat} {G' : List Ow} {Fb : Rho → List D × SR} (F : Fun K x qual st f fd) (S : GScope N ps (defScope st)) (hsc : NoCell (defScope st)) (hn : ps.length ≤ N.length)
    (hb : ∀ C : GCt, C.P = P → C.w = w → C.K = K → C.mg = mg → C.base = base → C.cm = cm → C.N = N → C.qual = qual → C.scope = defScope st → C.f = f → C.k = k → (∀ q ∈ C.pn, C.n0 ≤ q.1) → GStms C [] (G0 (List.replicate ps.length false) N.length) G' (defBody st) Fb) :
    GFnD P w K mg base cm (k + 1) f fd ps (runGF N.length Fb) := by
  obtain ⟨oc, od, kV, doc, pm, an, cdv, ct, osl, rfl, lk, hcd⟩ := F.ex
  refine ⟨fun X hP hw hK hmg hbase s Sg H args us vs ds items hr e0 hbd rv hl ex hds hF => ?_⟩
  have KX : K.In s.heap := e0.mod.kin.keeps fun b o e => (e0.bs b o e).1
  have lim : s.heap.NoLimit := e0.mod.nolimit.keeps fun b o e => (e0.bs b o e).1
  have hkind : ∀ y ∈ ps.zip us, (defScope st).names.lookup y.1 = some .local ∨ ((defScope st).names.lookup y.1 = some .cell ∧ ((cellsFrom (s.heap.objs.size + 1) (defScope st).names []).lookup y.1).isSome = true) := fun ⟨n, v⟩ hy => by
    rcases S.par n (List.of_mem_zip hy).1 with q | q
    · exact .inl q
    · exact (hsc.not (.inl q)).elim
  refine codeAny_call_generator hr.depth (KX _ _ lk) rfl S.co S.gen rfl (PySem.W.codeRec_of KX hcd) ?_
  refine hbd _ _ _ _ ?_
  refine wpAny_newFunctionEnv_cells S.kind hkind fun env he s1 y => ?_
  subst he
  refine ⟨lim.keeps y.toInCall.keep, ?_⟩
  obtain ⟨h1, tk, es1, hk1⟩ := y.done
  have os1 : s1.os = s.os := by rw [es1]
  have gen1 : s1.gens = s.gens := by rw [es1]
  have lt1 : s.heap.objs.size < s1.heap.objs.size := y.toInCall.ns.lt
  have kp1 : ∀ b o, s.heap.get? b = some o → s1.heap.get? b = some o := y.toInCall.keep
  have main : ∀ (go : Obj) (nm qn : Value) (tk2 : Nat), go.cls = .type "generator" → go.data = .fields #[.int s1.gens.size 0, nm, qn] → go.slots = #[] → (∀ h : Heap, (h.push go).get? h.objs.size = some go) →
      GMadeD X cm (k + 1) s Sg H items (.ref s1.heap.objs.size) { s1 with gens := s1.gens.push (.fresh (.func (defBody st) (envOfC qual (defScope st) s.heap.objs.size f cdv))), toks := tk2, heap := s1.heap.push go } := by
    intro go nm qn tk2 hgc hgd hgs hgp
    have hgen : ∀ h : Heap, h.get? s1.heap.objs.size = some go → h.IsGen s1.heap.objs.size s.gens.size := fun h e => ⟨go, nm, qn, e, hgc, by rw [hgd, gen1], hgs⟩
    have hpush : (s1.heap.push go).get? s1.heap.objs.size = some go := hgp _
    obtain ⟨m, ons, es, ep, hons, hdata, hstr⟩ : ∃ m, s1.heap.Ns s.heap.objs.size m := ⟨_, y.toInCall.ns⟩
    have honsP : (s1.heap.push go).get? s.heap.objs.size = some ons := Heap.get?_push_of_some _ hons
    let C : GCt := { P := P, w := w, K := K, mg := mg, base := base, cm := cm, N := N, qual := qual, scope := defScope st, f := f, cd := cdv, outer := X.stack, n0 := s.heap.objs.size, os := s.os, k := k, pn := [(s1.heap.objs.size, go)] }
    have room : ∀ A, Room (k + 1) A → Room C.k (A.deeper C.env) := fun A hA => hA.deeper _
    refine ⟨C, s1.heap.objs.size, .func (defBody st) (envOfC qual (defScope st) s.heap.objs.size f cdv), [(s1.heap.objs.size, go), (s.heap.objs.size, ons)], go, rfl, ⟨hP.symm, hw.symm, hK.symm, hmg.symm, hbase.symm, rfl, rfl⟩, rfl, rfl, room, rfl, hgen _ hpush, hgen, ?_, os1, fun b o e => Heap.get?_push_of_some _ (kp1 b o e), fun q hq => ?_, List.mem_cons_self, fun b' wk => ?_⟩
    · show s1.gens.push _ = s.gens.push _
      rw [gen1]
    · have hs : s1.heap.objs.size < (s1.heap.push go).objs.size := by rw [Heap.size_push]; exact Nat.lt_succ_self _
      rcases List.mem_cons.mp hq with hq | hq
      · subst hq
        exact ⟨hpush, Nat.le_of_lt lt1, hs, fun v q => by rw [hgd] at q; cases q⟩
      · rw [List.mem_singleton.mp hq]
        exact ⟨honsP, Nat.le_refl _, Nat.lt_trans lt1 hs, fun v q => by rw [hdata] at q; cases q⟩
    · show GRun (model P w) b'.A (Std C items b') (.func (defBody st) C.env) ((model P w).den (.func (defBody st) C.env)) [] b'.s
      refine gr_func fun J' => ?_
      unfold runGF at hF
      have I1 : Inv (gcxOf P w K mg base N qual (defScope st) f cdv X.A X.stack s H noX []) [] (start N vs) H s1 := inv_startG S hr.hd e0 hl rv y
      have I2 : Inv (gcxOf P w K mg base N qual (defScope st) f cdv X.A X.stack s H noX []) [] (start N vs) H { s1 with heap := s1.heap.push go, toks := tk2 } := I1.kept fun b o e => Heap.get?_push_of_some _ e
      have young : ∀ b, s1.heap.objs.size ≤ b → H b = none ∧ b ≠ s.heap.objs.size ∧ b ∉ frs X.stack := fun b hb => ⟨I1.hok.fresh hb, Nat.ne_of_gt (Nat.lt_of_lt_of_le lt1 hb), I1.nofs hb⟩
      have I3 : Inv (C.X ⟨X.A, s, Sg, H, []⟩) [] (start N vs) H { s1 with heap := s1.heap.push go, toks := tk2 } := by
        show Inv (gcxOf P w K mg base N qual (defScope st) f cdv X.A X.stack (cutS s.heap.objs.size s) H noX [(s1.heap.objs.size, go)]) _ _ _ _
        rw [cut_all]
        refine Inv.pinnedG I2 fun q hq => ?_
        rw [List.append_nil] at hq
        rw [List.mem_singleton.mp hq]
        obtain ⟨y1, y2, y3⟩ := young _ (Nat.le_refl _)
        exact ⟨hpush, y1, y2, y3, fun v q => by rw [hgd] at q; cases q⟩
      have okB : C.Ok ⟨X.A, s, Sg, H, []⟩ := ⟨room X.A hr, e0.frames, Nat.le_refl _, rfl⟩
      have I4 := inv_wake (O := fun _ => False) hsc okB wk.ok I3 wk.e0 (fun q hq => by
        rw [List.append_nil] at hq
        rw [List.mem_singleton.mp hq]
        exact wk.pin _ List.mem_cons_self) (fun o ho => by
        rw [show ({ s1 with heap := s1.heap.push go, toks := tk2 } : Shared).heap.get? C.n0 = some ons from honsP] at ho
        cases ho
        exact wk.pin _ (List.mem_cons_of_mem _ (List.mem_singleton.mpr rfl))) (fun p hp => hp.elim)
      have ep : putB (fun _ => False) H b'.H = b'.H := by
        funext a
        exact put_out fun z => z
      rw [ep] at I4
      have hds' : RpA K cm b'.S vs ds := hds.mono wk.s
      have env : EnvOk C.cf b'.S b'.H (G0 (List.replicate ps.length false) N.length) b'.S b'.H (start N vs) (startR N.length ds) := by
        refine env_start wk.h ?_ (by simpa using hn)
        rw [← hl]
        exact RpA.modes (c := C.cf) hds'
      have hst : GSt C (fun _ => none) b' [] [] (G0 (List.replicate ps.length false) N.length) (startR N.length ds) b'.s := ⟨_, b'.S, b'.H, I4, env, ⟨Nat.le_refl _, fun q hq => (by cases hq)⟩, fun q hq => (by cases hq), GoneN.refl, fun _ _ h => (by cases h)⟩
      have pos : GPos C (.func (defBody st) C.env) [] id := ⟨rfl, fun A => over_func, rfl, rfl⟩
      have hpn : ∀ q ∈ C.pn, C.n0 ≤ q.1 := fun q hq => by
        rw [List.mem_singleton.mp hq]
        exact Nat.le_of_lt lt1
      have hbody := hb C rfl rfl rfl rfl rfl rfl rfl rfl rfl rfl rfl hpn
      have aft : ∀ {B : GB} {z : Shared} {σ' : L2.St} {S' H' : Hp}, C.Ok B → Inv (C.X B) [] σ' H' z → Fwd B.S B.H S' H' → B.s.gens.size ≤ z.gens.size → Aft C B S' H' z := fun okb I f gs => ⟨f, I.base, I.hok, I.os.trans okb.os, I.bare, gs, fun q hq => (I.pin q (List.mem_append_left _ hq)).1⟩
      cases hB : Fb (startR N.length ds) with
      | mk ys o =>
        rw [hB] at hF
        have fin : ∀ o, okO o → (o = .rt .non ∨ ∃ r, o = .nx r) → GKon C (fun _ => none) [] [] [] G' o [] (.func (defBody st) C.env) [] (fun f => .pure (.done (.ret (match f with | .ret v => v | _ => .none)))) := by
          intro o _ ho B z fl okb out
          rcases ho with ho | ⟨r, ho⟩
          · subst ho
            cases fl with
            | ret u =>
              obtain ⟨v, σ', S', H', r1, I', f', hv, gs⟩ := out
              cases hv
              have eu : u = Value.none := r1
              subst eu
              exact gr_end (.ok (.ret .none)) ⟨rfl, S', H', aft okb I' f' gs⟩
            | _ => exact out.elim
          · subst ho
            cases fl with
            | next =>
              obtain ⟨σ', S', H', I', e', g', _, _⟩ := out
              exact gr_end (.ok (.ret .none)) ⟨rfl, S', H', aft okb I' e'.fwd g'.1⟩
            | _ => exact out.elim
        cases o with
        | nx r =>
          cases hF
          have z := hbody _ [] [] b' b'.s _ _ (.nx r) [] _ [] _ J' id id wk.ok pos hB trivial hst (fin _ trivial (.inr ⟨r, rfl⟩))
          rw [List.append_nil] at z
          exact z
        | rt d =>
          cases d with
          | non =>
            cases hF
            have z := hbody _ [] [] b' b'.s _ _ (.rt .non) [] _ [] _ J' id id wk.ok pos hB trivial hst (fin _ trivial (.inl rfl))
            rw [List.append_nil] at z
            exact z
          | _ => cases hF
        | _ => cases hF
  exact main _ _ _ _ rfl rfl rfl fun h => Heap.get?_push_size _ rfl
end
/-- an expression whose value is a generator not begun -/
structure GEx (X : Cx) (c : Cf) (G : List Ow) (k : Nat) (e : Expr) (its : Rho → Res (List D)) : Prop where
  run : ∀ (pins : List (Addr × Obj)) (s : Shared) (σ : L2.St) (S0 H0 S H : Hp) (r : Rho) (items : List D), Inv X pins σ H s → EnvOk c S0 H0 G S H σ r → its r = .ok items →
    wpAny (model X.prog X.w) X.A (eval e X.env) (fun u s' => ∃ S1 H1 sc, s.gens.size ≤ sc.gens.size ∧ Fwd S H S1 H1 ∧ Inv X pins σ H1 sc ∧ GMadeD X c.cm k sc S1 H1 items u s') X.xe s
section
variable {X : Cx} {c : Cf} {G : List Ow} {k : Nat} {f : Addr} {fd : FuncData} {ps : List Str} {x : Str} {p pos : Pos} {e : Expr} {es : List Expr} {fs : Rho → Res (List D)} {F : List D → Res (List D)}
/-- the call, behind its arguments -/
theorem run_gfnD {pins : List (Addr × Obj)} {σ : L2.St} {S H : Hp} {s : Shared} {us : List Value} {vs : List V} {ds items : List D} {E1 : Value → Shared → Prop} (F1 : GFnD X.prog X.w X.K X.mg X.base c.cm k f fd ps F) (hK : c.K = X.K) (hr : Room k X.A) (hb : Binds X.K fd ps []) (I : Inv X pins σ H s) (ex : Ex S H)
    (r : Vals vs us) (hl : vs.length = ps.length) (hd : RpA c.K c.cm S vs ds) (hF : F ds = .ok items) : wpAny (model X.prog X.w) X.A (call (.ref f) us) (fun u s' => GMadeD X c.cm k s S H items u s') E1 s := by
  have hl2 : (us ++ []).length = ps.length := by rw [List.append_nil, ← r.length]; exact hl
  have hb2 := hb s us I.kIn hl2
  rw [List.append_nil] at hb2
  refine wpAny_call (codeAny_mono (F1.run X rfl rfl rfl rfl rfl s S H ⟨us, []⟩ us vs ds items hr I.env0 hb2 r hl ex (by rw [← hK]; exact hd) hF) fun res s' q => ?_)
  cases res with
  | error e => exact q.elim
  | ok fl =>
    cases fl with
    | ret u => exact q
    | next => exact q.elim
    | brk => exact q.elim
    | cont => exact q.elim
def dGen (F : List D → Res (List D)) (fs : Rho → Res (List D)) : Rho → Res (List D) := fun r => (fs r).bind F
/-- f(e, ..), f a generator def of the text -/
theorem dg_callG (F1 : GFnD X.prog X.w X.K X.mg X.base c.cm k f fd ps F) (hr : Room k X.A) (hg : Gl X x) (hm : X.mg x = some (.ref f)) (hk : PySem.W.keepIn X.K (.ref f) = true) (hb : Binds X.K fd ps []) (hlen : ∀ r ds, fs r = .ok ds → ds.length = ps.length) (ha : PA X (e :: es) (tAs c G fs))
    (hK : c.K = X.K := by rfl) (hdb : (x == ("__debug__" : Str)) = false := by decide) (he : starEach (e :: es) X.env = (false, eval e X.env) :: starEach es X.env := by rfl) (hpl : (backTo pos (starEach es X.env)).any (·.1) = false := by rfl) : GEx X c G k (.Call (.Name x p) (e :: es) [] pos) (dGen F fs) := by
  refine ⟨fun pins s σ S0 H0 S H r items I ev hi => ?_⟩
  unfold dGen at hi
  cases hfs : fs r with
  | err n ns vs => rw [hfs] at hi; cases hi
  | bad => rw [hfs] at hi; cases hi
  | ok ds =>
    rw [hfs] at hi
    refine wpAny_Call_Name_kw (ld_glob I hg hm ?_ hdb)
    have hrun := ha.run pos pins s σ H (fun vs H1 => ∃ S1, Fwd S H S1 H1 ∧ RpA c.K c.cm S1 vs ds) I ⟨S0, H0, S, r, ev, by
      rw [hfs]
      exact fun S' H' fw vs hv => ⟨S', fw, hv⟩⟩
    have hrun2 := wpAny_gsz (n := s.gens.size) (Nat.le_refl _) (wpAny_mono hrun (fun us z q k => (⟨k, q⟩ : s.gens.size ≤ z.gens.size ∧ _)) fun _ _ q _ => q)
    refine PySem.W.callWith_K (h₀ := X.base) I.ok.mod.kin hk (thn hrun2 fun us s1 ⟨hsz, vs, H1, I1, rr, S1, f1, q⟩ => ⟨I1.kIn, ?_⟩) he hpl
    have hl : vs.length = ps.length := by rw [q.length]; exact hlen r ds hfs
    exact thn (run_gfnD F1 hK hr hb I1 f1.sub rr hl q hi) fun u s' z => ⟨S1, H1, s1, hsz, f1, I1, z⟩
end
end Dx
end S_DxBY
section S_DxBZ
set_option Elab.async false
set_option linter.all false
set_option maxRecDepth 100000
set_option maxHeartbeats 2000000
namespace Dx
open PySem L2
open PyProof.Rows hiding St
open GenW
section
variable {X : Cx} {pins : List (Addr × Obj)}
/-- all that the consumer has is older than the generator -/
structure Young (X : Cx) (pins : List (Addr × Obj)) (n : Nat) : Prop where
  s0 : X.s_0.heap.objs.size ≤ n
  loc : X.env.locals < n
  cell : ∀ x c, X.env.cells.lookup x = some c → c < n
  pin : ∀ q ∈ X.pn ++ pins, q.1 < n
theorem Young.of {σ : L2.St} {H : Hp} {s : Shared} (I : Inv X pins σ H s) : Young X pins s.heap.objs.size := ⟨I.sz, I.lt, fun x c e => by
  obtain ⟨v, q⟩ := I.cell x c e
  exact q.lt, fun q hq => Heap.lt_size (I.pin q hq).1⟩
/-- the consumer behind a stretch -/
theorem inv_behind {pg' : List (Addr × Obj)} {σ : L2.St} {H H1 : Hp} {s z : Shared} {n : Nat} (I : Inv X pins σ H s) (yg : Young X pins n) (un : Un (frs X.stack) [] H H1 (cutH n s.heap) z.heap) (hok : HOk X.prog X.w H1 z.heap) (os : z.os = s.os) (hb : AllBare z.gens)
    (hp : ∀ q ∈ pg', z.heap.get? q.1 = some q.2 ∧ H1 q.1 = none ∧ n ≤ q.1 ∧ ∀ u, q.2.data ≠ .cell u) : Inv X (pins ++ pg') σ H1 z := by
  have young : ∀ b, b ∉ (List.range s.heap.objs.size).filter (fun b => decide (n ≤ b)) → b < s.heap.objs.size → b < n := fun b hb hl => by
    apply Classical.byContradiction
    intro h
    exact hb (List.mem_filter.mpr ⟨List.mem_range.mpr hl, decide_eq_true (Nat.le_of_not_lt h)⟩)
  have I1 : Inv X pins σ H1 z := by
    refine I.call' (ch := (List.range s.heap.objs.size).filter (fun b => decide (n ≤ b))) os ⟨fun b o e h1 h2 h3 => ?_, fun b o e h1 h2 h3 => ?_, fun b o e h1 h3 => ?_, fun b o e h3 => ?_, un.tups, un.frzs, un.tbls⟩ hok hb fun b hb => ?_
    · exact un.keep b o (cut_of (young b h3 (Heap.lt_size e)) e) h1 h2 (by simp)
    · exact un.slot b o (cut_of (young b h3 (Heap.lt_size e)) e) h1 h2 (by simp)
    · exact un.free b o (cut_of (young b h3 (Heap.lt_size e)) e) h1 (by simp)
    · exact un.there b o (cut_of (young b h3 (Heap.lt_size e)) e) (by simp)
    · have hn : n ≤ b := of_decide_eq_true (List.mem_filter.mp hb).2
      exact ⟨.inr (Nat.le_trans yg.s0 hn), fun q => absurd yg.loc (by rw [← q]; exact Nat.not_lt.mpr hn), fun x c e q => absurd (yg.cell x c e) (by rw [q]; exact Nat.not_lt.mpr hn), fun p hp q => absurd (yg.pin p hp) (by rw [q]; exact Nat.not_lt.mpr hn)⟩
  refine I1.pins_of fun q hq => ?_
  rcases List.mem_append.mp hq with hq | hq
  · exact I1.pin q (List.mem_append_right _ hq)
  · obtain ⟨h1, h2, h3, h4⟩ := hp q hq
    refine ⟨h1, h2, fun e => ?_, fun e => ?_, h4⟩
    · exact absurd yg.loc (by rw [← e]; exact Nat.not_lt.mpr h3)
    · obtain ⟨_, o, ho, _⟩ := I.ok.funs.mem e
      exact absurd (Heap.lt_size ho) (Nat.not_lt.mpr (Nat.le_trans yg.s0 h3))
/-- what is known of a sleeping generator -/
structure Slp (X : Cx) (cm : CM) (C : GCt) (a : Addr) (g : Nat) (k : Nat) (go : Obj) : Prop where
  p : C.P = X.prog
  w : C.w = X.w
  K : C.K = X.K
  mg : C.mg = X.mg
  base : C.base = X.base
  cm : C.cm = cm
  outer : C.outer = X.stack
  room : ∀ A, Room k A → Room C.k (A.deeper C.env)
  gen : ∀ h : Heap, h.get? a = some go → h.IsGen a g
  pn : C.pn = [(a, go)]
/-- .. as it stands at s -/
structure SlpAt (C : GCt) (a : Addr) (g : Nat) (go : Obj) (ds : List D) (gs : GenState) (pg : List (Addr × Obj)) (gl : List (Nat × GenState)) (S1 : Hp) (s : Shared) : Prop where
  asl : Asl C ds gs pg gl S1
  hpg : ∀ q ∈ pg, C.n0 ≤ q.1
  hgo : (a, go) ∈ pg
  hgs : s.gens[g]? = some gs
  hng : ngG gs
  hgl : ∀ q ∈ gl, s.gens[q.1]? = some q.2 ∧ isSus q.2 = true ∧ ngG q.2 ∧ q.1 ≠ g
  hsz : C.n0 ≤ s.heap.objs.size
  hos : s.os = C.os
/-- behind next -/
def NextP (X : Cx) (cm : CM) (pins : List (Addr × Obj)) (σ : L2.St) (C : GCt) (a : Addr) (g : Nat) (go : Obj) (S H : Hp) (gl0 : List (Nat × GenState)) (n : Nat) (ds : List D) (r : Option Value) (s' : Shared) : Prop := match ds with
  | [] => r = none ∧ ∃ S' H', Fwd S H S' H' ∧ Inv X pins σ H' s'
  | d :: ds => ∃ v x S' H' gs pg gl, r = some v ∧ RelV x v ∧ Rp C.K cm S' x d ∧ Fwd S H S' H' ∧ Inv X (pins ++ pg) σ H' s' ∧ isSus gs = true ∧ (∀ q ∈ gl, (∃ y ∈ gl0, y.1 = q.1) ∨ n ≤ q.1) ∧ SlpAt C a g go ds gs pg gl S' s'
theorem next_run {cm : CM} {C : GCt} {a : Addr} {g k : Nat} {go : Obj} {ds : List D} {gs : GenState} {pg : List (Addr × Obj)} {gl : List (Nat × GenState)} {S1 S H : Hp} {s : Shared} {σ : L2.St} {E : Value → Shared → Prop} {A' : Around} (hr : Room (k + 1) A') (hfr : A'.frames = some X.stack) (sl : Slp X cm C a g k go) (yg : Young X pins C.n0)
    (I : Inv X (pins ++ pg) σ H s) (sa : SlpAt C a g go ds gs pg gl S1 s) (e1 : Ex S1 S) (e2 : Ex S H) : wpAny (model X.prog X.w) A' (pyNext (.ref a))
      (fun r s' => KeptG (fun i => i = g ∨ ∃ q ∈ gl, q.1 = i) s s' ∧ s.gens.size ≤ s'.gens.size ∧ GoneN s s' ∧ NextP X cm pins σ C a g go S H gl s.gens.size ds r s') E s := by
  obtain ⟨P, w, K, mg, base, cm', N, qual, scope, f, cd, outer, n0, os, k0, pn⟩ := C
  obtain ⟨rfl, rfl, rfl, rfl, rfl, rfl, rfl, room, hgen, hpn⟩ := sl
  generalize hC : (⟨X.prog, X.w, X.K, X.mg, X.base, cm', N, qual, scope, f, cd, X.stack, n0, os, k0, pn⟩ : GCt) = C at *
  have cP : C.P = X.prog := by rw [← hC]
  have cw : C.w = X.w := by rw [← hC]
  have cout : C.outer = X.stack := by rw [← hC]
  have cn : C.n0 = n0 := by rw [← hC]
  have cpn : C.pn = pn := by rw [← hC]
  have ccm : C.cm = cm' := by rw [← hC]
  have hgl : g < s.gens.size := (Array.getElem?_eq_some_iff.mp sa.hgs).1
  let U : Nat → Prop := fun i => i = g ∨ ∃ q ∈ gl, q.1 = i
  have hU : ∀ (i : Nat) (x : GenState), U i → s.gens[i]? = some x → ngG x := by
    rintro i x (rfl | ⟨q, hq, rfl⟩) e
    · rw [sa.hgs] at e; cases e; exact sa.hng
    · obtain ⟨h1, _, h3, _⟩ := sa.hgl q hq
      rw [h1] at e; cases e; exact h3
  have inU : ∀ {i : Nat}, U i → sleeps U s.gens i = none := fun {i} h => by
    unfold sleeps
    exact if_pos h
  have gU : U g := .inl rfl
  have deadU : ∀ {i : Nat}, U i → (dead U s).gens[i]? = s.gens[i]? := fun {i} h => by
    rw [dead_get, inU h]
    cases s.gens[i]? <;> rfl
  have Id : Inv X (pins ++ pg) σ H (dead U s) := I.deadG U
  have hds : (dead U s).gens.size = s.gens.size := by
    show (s.gens.mapIdx _).size = _
    rw [Array.size_mapIdx]
  let b' : GB := ⟨A'.in1, (dead U s).setGen g .running, S, H, gl.map (·.1)⟩
  have e0 := Id.env0
  have wk : Wk C b' pg gl S1 := by
    refine ⟨⟨room _ hr.in1, ?_, sa.hsz, sa.hos⟩, ?_, e1, e2, fun q hq => ?_, fun q hq => ?_⟩
    · rw [cout]; exact hfr
    · rw [← hC]
      exact ⟨hfr, e0.mod, e0.bs, e0.bsz, e0.funs, e0.frf, e0.hok, allBare_setGen (s := dead U s) e0.bare rfl⟩
    · obtain ⟨h1, h2, _⟩ := Id.pin q (List.mem_append_right _ (List.mem_append_right _ hq))
      exact ⟨h1, h2⟩
    · obtain ⟨h1, _, _, h4⟩ := sa.hgl q hq
      refine ⟨?_, List.mem_map_of_mem hq⟩
      show ((dead U s).gens.setIfInBounds g .running)[q.1]? = _
      rw [Array.getElem?_setIfInBounds_ne (Ne.symm h4), deadU (.inr ⟨q, hq, rfl⟩)]
      exact h1
  have go1 := sa.asl b' wk
  rw [cP, cw] at go1
  have hgo : (dead U s).heap.get? a = some go := (Id.pin (a, go) (List.mem_append_right _ (List.mem_append_right _ sa.hgo))).1
  have h : wpAny (model X.prog X.w) A' (pyNext (.ref a)) (NextP X cm' pins σ C a g go S H gl s.gens.size ds) (fun _ _ => False) (dead U s) := by
    refine wpAny_nextG (Φ := Std C ds b') hr.hd Id.nolimit hr.depth (hgen _ hgo) (by rw [deadU gU]; exact sa.hgs) go1 (fun v gd l k c p fs z hz => ?_) fun r z hz => ?_
    · cases ds with
      | nil => exact hz.elim
      | cons d ds =>
        obtain ⟨hq, hng, x, S2, H2, pg2, gl2, rv, hx, aft, hpg, hsub, glk, nxt⟩ := hz
        refine ⟨hq, v, x, S2, H2, (End.susp v gd l k c p fs).genState, pg2, gl2, rfl, rv, ?_, aft.fwd, ?_, rfl, fun q hq => ?_, ⟨nxt, fun q hq => (hpg q hq).2.2.1, hsub _ (by rw [hpn]; exact List.mem_singleton.mpr rfl), ?_, hng, fun q hq => ?_, ?_, aft.os⟩⟩
        · rw [← ccm]; exact hx
        · refine inv_behind (n := n0) (z := z.setGen g _) (Id.unpinned) (by rw [← cn]; exact yg) ?_ ?_ ?_ ?_ fun q hq => ?_
          · have := aft.un
            rw [cout, cn] at this
            exact this
          · have := aft.hok
            rw [cP, cw] at this
            exact this
          · show z.os = s.os
            rw [aft.os, sa.hos]
          · exact allBare_setGen aft.bare (End.bare_of_quiet hq)
          · obtain ⟨h1, h2, h3, h4⟩ := hpg q hq
            exact ⟨h1, h2, by rw [← cn]; exact h3, h4⟩
        · obtain ⟨_, _, _, h4⟩ := glk.2 q hq
          rcases h4 with h4 | h4
          · obtain ⟨y, hy, e⟩ := List.mem_map.mp h4
            exact .inl ⟨y, hy, e⟩
          · refine .inr ?_
            have e : b'.s.gens.size = s.gens.size := by
              show ((dead U s).gens.setIfInBounds g .running).size = _
              rw [Array.size_setIfInBounds, hds]
            omega
        · refine setGen_at ?_
          have := aft.gsz
          have e : b'.s.gens.size = s.gens.size := by
            show ((dead U s).gens.setIfInBounds g .running).size = _
            rw [Array.size_setIfInBounds, hds]
          omega
        · obtain ⟨h1, h2, h3, h4⟩ := glk.2 q hq
          have hne : q.1 ≠ g := by
            rcases h4 with h4 | h4
            · obtain ⟨y, hy, e⟩ := List.mem_map.mp h4
              rw [← e]
              exact (sa.hgl y hy).2.2.2
            · have e : b'.s.gens.size = s.gens.size := by
                show ((dead U s).gens.setIfInBounds g .running).size = _
                rw [Array.size_setIfInBounds, hds]
              omega
          refine ⟨?_, h2, h3, hne⟩
          show (z.gens.setIfInBounds g _)[q.1]? = _
          rw [Array.getElem?_setIfInBounds_ne (Ne.symm hne)]
          exact h1
        · have := (hpg (a, go) (hsub _ (by rw [hpn]; exact List.mem_singleton.mpr rfl)))
          exact Nat.le_trans this.2.2.1 (Nat.le_of_lt (Heap.lt_size this.1))
    · cases ds with
      | cons d ds => exact hz.elim
      | nil =>
        obtain ⟨h1, S2, H2, aft⟩ := hz
        refine ⟨.inl h1, fun h' hk => ⟨rfl, S2, H2, aft.fwd, ?_⟩⟩
        have I2 : Inv X (pins ++ []) σ H2 (z.setGen g .finished) := by
          refine inv_behind (n := n0) (Id.unpinned) (by rw [← cn]; exact yg) ?_ ?_ ?_ ?_ fun q hq => by cases hq
          · have := aft.un
            rw [cout, cn] at this
            exact this
          · have := aft.hok
            rw [cP, cw] at this
            exact this
          · show z.os = s.os
            rw [aft.os, sa.hos]
          · exact allBare_setGen aft.bare rfl
        rw [List.append_nil] at I2
        exact I2.kept (t' := z.toks) hk
  have h1 : wpAny (model X.prog X.w) A' (pyNext (.ref a)) (fun r z => (s.gens.size ≤ z.gens.size ∧ GoneN s z) ∧ NextP X cm' pins σ C a g go S H gl s.gens.size ds r z) (fun _ _ => False) (dead U s) := by
    refine wpAny_gsz (n := s.gens.size) (by rw [hds]; exact Nat.le_refl _) (wpAny_mono (wpAny_nb h) (fun r z q hz => ⟨⟨hz, ?_⟩, q.2⟩) fun _ _ q _ => q)
    exact (GoneN.same rfl).trans q.1
  refine wpAny_kept U hU h1 (fun r s2 d n q kk => ⟨kk, by rw [rest_size]; exact q.1.1, q.1.2.trans (GoneN.same rfl), ?_⟩) fun _ _ _ _ q _ => q.elim
  cases ds with
  | nil =>
    obtain ⟨h1, S2, H2, f2, I2⟩ := q.2
    exact ⟨h1, S2, H2, f2, I2.restG d I.bare⟩
  | cons dd ds =>
    obtain ⟨v, x, S2, H2, gs2, pg2, gl2, a1, a2, a3, a4, I2, a5, a6, sa2⟩ := q.2
    have free : ∀ {i : Nat}, (U i ∨ s.gens.size ≤ i) → sleeps U s.gens i = none := fun {i} hi => by
      rcases hi with hi | hi
      · exact inU hi
      · unfold sleeps
        split
        · rfl
        · rw [Array.getElem?_eq_none hi]
    refine ⟨v, x, S2, H2, gs2, pg2, gl2, a1, a2, (by rw [ccm]; exact a3), a4, I2.restG d I.bare, a5, a6, ⟨sa2.asl, sa2.hpg, sa2.hgo, ?_, sa2.hng, fun q hq => ?_, sa2.hsz, sa2.hos⟩⟩
    · rw [rest_free (inU gU)]; exact sa2.hgs
    · obtain ⟨b1, b2, b3, b4⟩ := sa2.hgl q hq
      refine ⟨?_, b2, b3, b4⟩
      have q3 : sleeps U s.gens q.1 = none := free ((a6 q hq).imp (fun ⟨y, hy, e⟩ => .inr ⟨y, hy, e⟩) id)
      rw [rest_free q3]
      exact b1
end
end Dx
end S_DxBZ
section S_DxCA
set_option Elab.async false
set_option linter.all false
set_option maxRecDepth 100000
set_option maxHeartbeats 2000000
namespace Dx
open PySem L2
open PyProof.Rows hiding St
open GenW
/-- made, in the consumer's state -/
theorem GMadeD.slp {X : Cx} {cm : CM} {k : Nat} {pins : List (Addr × Obj)} {σ : L2.St} {sc s' : Shared} {S H : Hp} {items : List D} {u : Value} (h : GMadeD X cm k sc S H items u s') (I : Inv X pins σ H sc) :
    ∃ C a g go gs pg, u = .ref a ∧ Slp X cm C a g k go ∧ Young X pins C.n0 ∧ s'.heap.IsGen a g ∧ Inv X (pins ++ pg) σ H s' ∧ SlpAt C a g go items gs pg [] S s' ∧ sc.gens.size = g ∧ isSus gs = false := by
  obtain ⟨C, a, c, pg, go, rfl, ⟨h1, h2, h3, h4, h5, h6, h7⟩, hn, hos, hroom, hpn, hgen, hgen2, hgens, hos2, hkp, hpg, hgo, hasl⟩ := h.ex
  have hb : AllBare s'.gens := by rw [hgens]; exact I.bare.push rfl
  have I1 : Inv X pins σ H s' := I.call' (ch := []) hos2 (Un.kept hkp) (I.hok.kept hkp) hb fun b z => by simp at z
  have yg : Young X pins C.n0 := by rw [hn]; exact Young.of I
  have sz : C.n0 ≤ s'.heap.objs.size := by
    have := (hpg _ hgo)
    exact Nat.le_trans this.2.1 (Nat.le_of_lt this.2.2.1)
  refine ⟨C, a, sc.gens.size, go, .fresh c, pg, rfl, ⟨h1, h2, h3, h4, h5, h6, h7, hroom, hgen2, hpn⟩, yg, hgen, ?_, ⟨hasl, fun q hq => (hpg q hq).2.1, hgo, by rw [hgens]; exact Array.getElem?_push_size .., trivial, fun q hq => (by cases hq), sz, hos2.trans hos.symm⟩, rfl, rfl⟩
  refine I1.pins_of fun q hq => ?_
  rcases List.mem_append.mp hq with hq | hq
  · exact I1.pin q (List.mem_append_right _ hq)
  · obtain ⟨z1, z2, z3, z4⟩ := hpg q hq
    rw [hn] at z2
    refine ⟨z1, I.hok.fresh z2, Nat.ne_of_gt (Nat.lt_of_lt_of_le I.lt z2), I.nofs z2, z4⟩
/-- it stands still as long as it is not woken -/
theorem SlpAt.keep {C : GCt} {a : Addr} {g : Nat} {go : Obj} {ds : List D} {gs : GenState} {pg : List (Addr × Obj)} {gl : List (Nat × GenState)} {S1 : Hp} {s s' : Shared} (h : SlpAt C a g go ds gs pg gl S1 s) (hs : isSus gs = true) (k : KeptG (fun _ => False) s s') (hsz : GoneN s s') (hos : s'.os = s.os) : SlpAt C a g go ds gs pg gl S1 s' :=
  ⟨h.asl, h.hpg, h.hgo, k g gs (fun z => z) h.hgs hs, h.hng, fun q hq => let ⟨h1, h2, h3, h4⟩ := h.hgl q hq; ⟨k q.1 q.2 (fun z => z) h1 h2, h2, h3, h4⟩, Nat.le_trans h.hsz hsz.1, hos.trans h.hos⟩
end Dx
end S_DxCA
section S_DxCB
set_option Elab.async false
set_option linter.all false
set_option maxRecDepth 100000
set_option maxHeartbeats 2000000
namespace Dx
open PySem L2
open PyProof.Rows hiding St
open GenW
section
variable {prog : Program} {w : World} {A : Around} {Φ : End → Shared → Prop} {s : Shared} {c : Code} {fs : List Frame} {env : Env} {K : Flow → Sem PySem.Fin} {J : Value → Sem PySem.Fin} {gd : Bool → Bool} {lv : List Value → List Value} {Xe : Value → Shared → Prop}
theorem gr_bindw {M : Model} {α β : Type} {m : Sem α} {f : α → Sem β} {K : β → Sem PySem.Fin} (h : wpAny M (A.over c fs) m (fun a z => GRun M A Φ c ((f a).wrap K J gd lv) fs z) (fun x z => GRun M A Φ c (J x) fs z) s) : GRun M A Φ c ((m >>= f).wrap K J gd lv) fs s := by
  rw [Sem.bind_eq_wrap', Sem.wrap_wrap]
  exact gr_wrap h
theorem gr_for {tg iter : Expr} {body : List Stmt} {pos : Pos} (hx : ∀ x z t, Xe x z → GRun (model prog w) A Φ c t fs z) (gdf : gd false = false)
    (h : wpAny (model prog w) (A.over c fs) (eval iter env) (fun v z => wpAny (model prog w) (A.over c fs) (pyIter v) (fun it z => ∀ k l p kp, (∀ f, k (.ok f) = K f) → GRun (model prog w) A Φ (.forLoop tg it body [] env) ((model prog w).den (.forLoop tg it body [] env)) (.ret k none false l c p kp :: fs) z) Xe z) Xe s)
    (hs : ∀ x, foldedSetIterable iter env x = pure x := by intro _; rfl) : GRun (model prog w) A Φ c ((exec (.For tg iter body [] pos) env).wrap K J gd lv) fs s := by
  rw [exec_For]
  refine gr_bindw (wpAny_standAt ?_)
  refine gr_bindw (wpAny_mono h (fun v z q => ?_) fun x z q => hx x z _ q)
  refine gr_bindw (wpAny_of_eq (hs v) ?_)
  refine gr_bindw (wpAny_standAt ?_)
  refine gr_bindw (wpAny_holding (wpAny_mono q (fun it z q => ?_) fun x z q => hx x z _ q))
  refine gr_call fun p => ?_
  rw [gdf]
  exact q _ _ p _ fun f => rfl
theorem gr_block0 (h : GRun (model prog w) A Φ (.block [] env) (.pure (.done .next)) fs s) : GRun (model prog w) A Φ (.block [] env) ((model prog w).den (.block [] env)) fs s := h
theorem gr_forLoop {tg : Expr} {it : Value} {body : List Stmt} (hx : ∀ x z t, Xe x z → GRun (model prog w) A Φ (.forLoop tg it body [] env) t fs z)
    (h : wpAny (model prog w) (A.over (.forLoop tg it body [] env) fs) (pyNext it) (fun r z => match r with
      | none => GRun (model prog w) A Φ (.block [] env) (.pure (.done .next)) fs z
      | some v => wpAny (model prog w) (A.over (.forLoop tg it body [] env) fs) (letOwnedTupleGo tg it v) (fun _ z => wpAny (model prog w) (A.over (.forLoop tg it body [] env) fs) (assign tg env v) (fun _ z =>
          ∀ J' : Value → Sem PySem.Fin, GRun (model prog w) A Φ (.forLoop tg it body [] env) ((execs body env).wrap (turnK (.forLoop tg it body [] env)) J' id id) fs z) Xe z) Xe z) Xe s) :
    GRun (model prog w) A Φ (.forLoop tg it body [] env) ((model prog w).den (.forLoop tg it body [] env)) fs s := by
  show GRun _ A Φ _ ((forTurn tg it body [] env).onRaise _) fs s
  simp only [forTurn]
  rw [Sem.onRaise_eq_wrap]
  refine gr_bindw (wpAny_standAt ?_)
  refine gr_bindw (wpAny_onRaise (wpAny_mono h (fun r z q => ?_) fun x z q => wpAny_standAt (hx x z _ q)))
  cases r with
  | none => exact gr_again rfl (gr_block0 q)
  | some v =>
    refine gr_bindw (wpAny_mono q (fun _ z q => ?_) fun x z q => hx x z _ q)
    refine gr_bindw (wpAny_mono q (fun _ z q => ?_) fun x z q => hx x z _ q)
    rw [Sem.bind_eq_wrap', Sem.wrap_wrap]
    rw [Sem.wrap_congr (execs body env) _ _ (K' := turnK (.forLoop tg it body [] env)) (fun f => by cases f <;> rfl) (fun _ => rfl)]
    exact q _
end
def loopG (t : D → Rho → Res Rho) (F : Rho → List D × SR) : List D → Rho → List D × SR
  | [], r => ([], .nx r)
  | d :: ds, r => match t d r with
    | .ok r1 => (match F r1 with
      | (ys, .nx r2) => (ys ++ (loopG t F ds r2).1, (loopG t F ds r2).2)
      | (ys, .ct r2) => (ys ++ (loopG t F ds r2).1, (loopG t F ds r2).2)
      | (ys, .bk r2) => (ys, .nx r2)
      | x => x)
    | _ => ([], .bad)
def forGG (its : Rho → Res (List D)) (t : D → Rho → Res Rho) (F : Rho → List D × SR) : Rho → List D × SR := fun r => liftG (its r) fun ds => loopG t F ds r
theorem Aft.unbase {C : GCt} {b : GB} {S4 H4 S1 H1 : Hp} {z : Shared} (f : Fwd b.S b.H S4 H4) (h : Aft C { b with S := S4 } S1 H1 z) : Aft C b S1 H1 z := ⟨f.unbase h.fwd, h.un, h.hok, h.os, h.bare, h.gsz, h.pn⟩
theorem Std.unbase {C : GCt} {b : GB} {S4 H4 : Hp} (f : Fwd b.S b.H S4 H4) : ∀ {ds : List D} {e : End} {z : Shared}, Std C ds { b with S := S4 } e z → Std C ds b e z
  | [], .ret r, z, ⟨h, S1, H1, a⟩ => ⟨h, S1, H1, a.unbase f⟩
  | [], .susp _ _ _ _ _ _ _, z, h => h.elim
  | d :: ds, .ret r, z, h => h.elim
  | d :: ds, .susp v gd l k c p fs, z, ⟨h1, h2, x, S1, H1, pg, gl, h3, h4, a, h5, h6, h7, h8⟩ => ⟨h1, h2, x, S1, H1, pg, gl, h3, h4, a.unbase f, h5, h6, h7, h8⟩
section
variable {C : GCt} {L G G' : List Ow} {b : GB}
theorem GCt.Ok.S {S4 : Hp} (h : C.Ok b) : C.Ok { b with S := S4 } := ⟨h.room, h.fr, h.sz, h.os⟩
theorem Slp.move {b2 : GB} {cm : CM} {Ci : GCt} {a : Addr} {g k : Nat} {go : Obj} (ok : C.Ok b) (ok2 : C.Ok b2) (h : Slp (C.X b) cm Ci a g k go) : Slp (C.X b2) cm Ci a g k go := by
  refine ⟨h.p, h.w, h.K, h.mg, h.base, h.cm, ?_, h.room, h.gen, h.pn⟩
  rw [h.outer]
  show (C.X b).env :: C.outer = (C.X b2).env :: C.outer
  rw [ok.env, ok2.env]
theorem Young.move {b2 : GB} {ip : List (Addr × Obj)} {n : Nat} (ok : C.Ok b) (ok2 : C.Ok b2) (h : Young (C.X b) ip n) : Young (C.X b2) ip n := by
  have e : (C.X b2).env = (C.X b).env := ok2.env.trans ok.env.symm
  refine ⟨?_, by rw [e]; exact h.loc, fun x c hx => h.cell x c (by rw [← e]; exact hx), h.pin⟩
  have h1 : (cutH C.n0 b.s.heap).objs.size ≤ n := h.s0
  show (cutH C.n0 b2.s.heap).objs.size ≤ n
  rw [cut_size ok2.sz]
  rw [cut_size ok.sz] at h1
  exact h1
theorem gs_forG {tg iter : Expr} {body : List Stmt} {pos : Pos} {k : Nat} {its : Rho → Res (List D)} {ks : List Nat} {t : D → Rho → Res Rho} {F : Rho → List D × SR} (hk : k + 1 ≤ C.k) (hi : ∀ b, C.Ok b → GEx (C.X b) C.cf G k iter its) (ht : ∀ b, C.Ok b → PG (C.X b) tg (gD C.cf G G' ks t)) (hb : GStms C G G' G body F)
    (hs : ∀ x, foldedSetIterable iter C.env x = pure x := by intro _; rfl) : GStm C L G G (.For tg iter body [] pos) (forGG its t F) := by
  intro Sf ip gl b s r ys o ds c fs K' J gd lv ok pos hF oo hst kon
  unfold forGG liftG at hF
  cases hits : its r with
  | err n ns vs => rw [hits] at hF; cases hF; exact oo.elim
  | bad => rw [hits] at hF; cases hF; exact oo.elim
  | ok items =>
    rw [hits] at hF
    dsimp only at hF
    obtain ⟨σ, S, H, I, e, g0, hip, nb, hfl⟩ := hst
    refine gr_for (Xe := fun x _ => ∃ z, (C.X b).xe x z) (fun x z t ⟨y, q⟩ => gx ok pos q) pos.gd ?_ hs
    rw [pos.over, ← ok.A, ← ok.env]
    refine wpAny_mono (piece I.bare ((hi b ok).run ip _ σ b.S b.H S H r items (I.deadG _) e hits)) (fun v s1 q => ?_) fun x _ ⟨s2, _, _, _, q⟩ => ⟨s2, q⟩
    obtain ⟨s2, e2, dd, ⟨S1, H1, sc, hgsz, fw, I1, made⟩, kpt, hsz, nb1⟩ := q
    obtain ⟨Ci, a, g, go, gs, pg, rfl, sl, yg, hgen, I2, sa, hgsc, hnsu⟩ := made.slp I1
    have hz : ∀ {b' : GB}, C.Ok b' → Slp (C.X b') C.cf.cm Ci a g k go := fun ok' => sl.move ok ok'
    have hy : ∀ {b' : GB}, C.Ok b' → Young (C.X b') ip Ci.n0 := fun ok' => yg.move ok ok'
    have hcn : C.n0 ≤ Ci.n0 := by
      have h1 : (cutH C.n0 b.s.heap).objs.size ≤ Ci.n0 := yg.s0
      rw [cut_size ok.sz] at h1
      exact h1
    have hgg : s.gens.size ≤ g := by
      have hd : (dead (fun _ => False) s).gens.size = s.gens.size := by
        show (s.gens.mapIdx _).size = _
        rw [Array.size_mapIdx]
      rw [hd, hgsc] at hgsz
      exact hgsz
    have hlt : ∀ q ∈ gl, q.1 < s.gens.size := fun q hq => (Array.getElem?_eq_some_iff.mp (g0.2 q hq).1).1
    have I3 : Inv (C.X b) (ip ++ pg) σ H1 s1 := by rw [e2]; exact I2.restG dd I.bare
    have sa3 : SlpAt Ci a g go items gs pg [] S1 s1 := ⟨sa.asl, sa.hpg, sa.hgo, by rw [e2, rest_free (not_dead dd sa.hgs hnsu)]; exact sa.hgs, sa.hng, fun q hq => (by cases hq), by rw [e2]; exact sa.hsz, by rw [e2]; exact sa.hos⟩
    refine wpAny_pyIter_gen (show s1.heap.IsGen a g from by rw [e2]; exact hgen) fun k0 l p kp hk0 => ?_
    have pl : GPos C (.forLoop tg (.ref a) body [] C.env) (.ret k0 none false l c p kp :: fs) id := gpos_loop pos rfl rfl
    have loop : ∀ (its : List D) (b : GB) (s : Shared) (r : Rho) (ys : List D), C.Ok b → loopG t F its r = (ys, o) → (∃ σ S H S1 gs pg gli, Inv (C.X b) (ip ++ pg) σ H s ∧ EnvOk C.cf b.S b.H G S H σ r ∧ Ex S1 S ∧ Ex Sf S ∧ GlOk b gl s ∧ SlpAt Ci a g go its gs pg gli S1 s ∧ (g ∈ b.U ∨ b.s.gens.size ≤ g) ∧
        (∀ q ∈ gli, q.1 ∈ b.U ∨ b.s.gens.size ≤ q.1) ∧ (∀ q ∈ gl, q.1 ≠ g ∧ ∀ y ∈ gli, q.1 ≠ y.1) ∧ GoneN b.s s) →
        GRun (model C.P C.w) b.A (Std C (ys ++ ds) b) (.forLoop tg (.ref a) body [] C.env) ((model C.P C.w).den (.forLoop tg (.ref a) body [] C.env)) (.ret k0 none false l c p kp :: fs) s := by
      intro its
      induction its with
      | nil =>
        intro b s r ys ok hF ⟨σ, S, H, S1, gs, pg, gli, I, e, ex1, exf, gk, sa, hgi, hli, hdj, nb⟩
        cases hF
        refine gr_forLoop (Xe := fun x _ => ∃ z, (C.X b).xe x z) (fun x z t ⟨y, q⟩ => gx ok pl q) ?_
        rw [pl.over, ← ok.A]
        have hr : Room (k + 1) (C.X b).A := by rw [ok.A]; exact ok.room.mono hk
        refine wpAny_mono (next_run (E := fun x _ => ∃ z, (C.X b).xe x z) hr I.ok.frames (hz ok) (hy ok) I sa ex1 e.ex) (fun rr s4 ⟨kk, hs4, nb4, q⟩ => ?_) fun _ _ q => q
        obtain ⟨hr4, S4, H4, f4, I4⟩ := q
        subst hr4
        refine gr_leaf (.ok .next) ?_
        rw [hk0]
        refine kon b s4 .next ok ⟨σ, S4, H4, I4, e.go f4, ⟨Nat.le_trans gk.1 hs4, fun q hq => ?_⟩, hip, nb.trans nb4, exf.trans f4.s⟩
        obtain ⟨h1, h2, h3, h4⟩ := gk.2 q hq
        refine ⟨kk q.1 q.2 (fun z => ?_) h1 h2, h2, h3, h4⟩
        rcases z with z | ⟨y, hy1, z⟩
        · exact (hdj q hq).1 z
        · exact (hdj q hq).2 y hy1 z.symm
      | cons d its ih =>
        intro b s r ys ok hF ⟨σ, S, H, S1, gs, pg, gli, I, e, ex1, exf, gk, sa, hgi, hli, hdj, nb⟩
        unfold loopG at hF
        cases htt : t d r with
        | err _ _ _ => rw [htt] at hF; cases hF; exact oo.elim
        | bad => rw [htt] at hF; cases hF; exact oo.elim
        | ok r1 =>
          rw [htt] at hF
          dsimp only at hF
          refine gr_forLoop (Xe := fun x _ => ∃ z, (C.X b).xe x z) (fun x z t ⟨y, q⟩ => gx ok pl q) ?_
          rw [pl.over, ← ok.A]
          have hr : Room (k + 1) (C.X b).A := by rw [ok.A]; exact ok.room.mono hk
          refine wpAny_mono (next_run (E := fun x _ => ∃ z, (C.X b).xe x z) hr I.ok.frames (hz ok) (hy ok) I sa ex1 e.ex) (fun rr s4 ⟨kk, hs4, nb4, q⟩ => ?_) fun _ _ q => q
          obtain ⟨v, x, S4, H4, gs4, pg4, gl4, hr4, rv, hx, f4, I4, hsu, hix, sa4⟩ := q
          subst hr4
          have e4 := e.go f4
          have hgo4 := (I4.pin (a, go) (List.mem_append_right _ (List.mem_append_right _ sa4.hgo))).1
          obtain ⟨og, nm, qn, q1, q2, q3, _⟩ := sl.gen _ hgo4
          refine go_of q1 q2 q3 (by decide) ?_
          have hasg : wpAny (model C.P C.w) (C.X b).A (assign tg C.env v) (fun _ s5 => (∃ σ5, Inv (C.X b) (ip ++ pg4) σ5 H4 s5 ∧ EnvOk C.cf b.S b.H G' S4 H4 σ5 r1) ∧ KeptG (fun _ => False) s4 s5 ∧ s4.gens.size ≤ s5.gens.size ∧ GoneN s4 s5) (fun x _ => ∃ z, (C.X b).xe x z) s4 := by
            rw [← ok.env]
            refine wpAny_mono (piece I4.bare ((ht b ok).run (ip ++ pg4) _ σ H4 x v (fun σ5 H5 => H4 = H5 ∧ EnvOk C.cf b.S b.H G' S4 H4 σ5 r1) (I4.deadG _) rv ⟨b.S, b.H, S4, r, d, e4, by
              have z := hx
              rw [sl.K] at z
              exact z, ?_⟩)) (fun _ s5 q5 => ?_) fun x _ ⟨s2, _, _, _, q⟩ => ⟨s2, q⟩
            · rw [htt]
              exact fun σ5 z5 e5 => ⟨rfl, e5⟩
            · obtain ⟨s5', e5', d5, ⟨σ5, H5, I5, rfl, e5⟩, k5, h5, nb5⟩ := q5
              exact ⟨⟨σ5, by rw [e5']; exact I5.restG d5 I4.bare, e5⟩, k5, h5, nb5⟩
          refine wpAny_mono hasg (fun _ s5 q5 => ?_) fun _ _ q => q
          obtain ⟨⟨σ5, I5, e5⟩, k5, h5, nb5⟩ := q5
          intro J'
          have hip4 : ∀ q ∈ ip ++ pg4, C.n0 ≤ q.1 := fun q hq => by
            rcases List.mem_append.mp hq with hq | hq
            · exact hip q hq
            · exact Nat.le_trans hcn (sa4.hpg q hq)
          have gk4 : GlOk b gl s4 := ⟨Nat.le_trans gk.1 hs4, fun q hq => by
            obtain ⟨h1, h2, h3, h4⟩ := gk.2 q hq
            refine ⟨kk q.1 q.2 (fun z => ?_) h1 h2, h2, h3, h4⟩
            rcases z with z | ⟨y, hy1, z⟩
            · exact (hdj q hq).1 z
            · exact (hdj q hq).2 y hy1 z.symm⟩
          have hli4 : ∀ q ∈ gl4, q.1 ∈ b.U ∨ b.s.gens.size ≤ q.1 := fun q hq => by
            rcases hix q hq with ⟨y, hy1, z⟩ | z
            · rw [← z]; exact hli y hy1
            · exact .inr (Nat.le_trans gk.1 z)
          have hdj4 : ∀ q ∈ gl, q.1 ≠ g ∧ ∀ y ∈ gl4, q.1 ≠ y.1 := fun q hq => ⟨(hdj q hq).1, fun y hy1 => by
            rcases hix y hy1 with ⟨y', hy2, z⟩ | z
            · rw [← z]; exact (hdj q hq).2 y' hy2
            · have := (Array.getElem?_eq_some_iff.mp (gk.2 q hq).1).1
              omega⟩
          have gk5 : GlOk { b with S := S4 } ((g, gs4) :: (gl4 ++ gl)) s5 := by
            have gk6 := gk4.kept k5 h5
            refine ⟨gk6.1, fun q hq => ?_⟩
            rcases List.mem_cons.mp hq with hq | hq
            · subst hq
              exact ⟨k5 g gs4 (fun z => z) sa4.hgs hsu, hsu, sa4.hng, hgi⟩
            · rcases List.mem_append.mp hq with hq | hq
              · obtain ⟨h1, h2, h3, h4⟩ := sa4.hgl q hq
                exact ⟨k5 q.1 q.2 (fun z => z) h1 h2, h2, h3, hli4 q hq⟩
              · exact gk6.2 q hq
          have hst : GSt C S4 { b with S := S4 } (ip ++ pg4) ((g, gs4) :: (gl4 ++ gl)) G' r1 s5 := ⟨σ5, S4, H4, I5, e5.rebase, gk5, hip4, (nb.trans nb4).trans nb5, Ex.refl⟩
          have exf4 : Ex Sf S4 := exf.trans f4.s
          have sub : ∀ {b2 : GB} {s2 : Shared}, GlOk b2 ((g, gs4) :: (gl4 ++ gl)) s2 → GlOk b2 gl s2 := fun h => ⟨h.1, fun q hq => h.2 q (List.mem_cons_of_mem _ (List.mem_append_right _ hq))⟩
          have next : ∀ {b2 : GB} {s2 : Shared} {r2 : Rho} {ys2 : List D}, C.Ok b2 → GSt C S4 b2 (ip ++ pg4) ((g, gs4) :: (gl4 ++ gl)) G r2 s2 → loopG t F its r2 = (ys2, o) → GRun (model C.P C.w) b2.A (Std C (ys2 ++ ds) b2) (.forLoop tg (.ref a) body [] C.env) ((model C.P C.w).den (.forLoop tg (.ref a) body [] C.env)) (.ret k0 none false l c p kp :: fs) s2 := fun {b2 s2 r2 ys2} ok2 ⟨σ7, S7, H7, I7, e7, g7, _, nb7, f7⟩ h2 => by
            have hg7 := g7.2 (g, gs4) List.mem_cons_self
            have hp7 := (I7.pin (a, go) (List.mem_append_right _ (List.mem_append_right _ sa4.hgo))).1
            refine ih b2 s2 r2 ys2 ok2 h2 ⟨σ7, S7, H7, S4, gs4, pg4, gl4, I7, e7, f7, exf4.trans f7, sub g7, ⟨sa4.asl, sa4.hpg, sa4.hgo, hg7.1, sa4.hng, fun q hq => ?_, Nat.le_trans (sa4.hpg _ sa4.hgo) (Nat.le_of_lt (Heap.lt_size hp7)), ?_⟩, hg7.2.2.2, fun q hq => (g7.2 q (List.mem_cons_of_mem _ (List.mem_append_left _ hq))).2.2.2, hdj4, nb7⟩
            · obtain ⟨h1, h2, h3, _⟩ := g7.2 q (List.mem_cons_of_mem _ (List.mem_append_left _ hq))
              exact ⟨h1, h2, h3, (sa4.hgl q hq).2.2.2⟩
            · have o1 : s2.os = C.os := I7.os.trans ok2.os
              have o2 : s4.os = C.os := I4.os.trans ok.os
              rw [o1, ← o2]
              exact sa4.hos
          have out : ∀ {b2 : GB} {s2 : Shared} {r2 : Rho}, GSt C S4 b2 (ip ++ pg4) ((g, gs4) :: (gl4 ++ gl)) G r2 s2 → GSt C Sf b2 ip gl G r2 s2 := fun {b2 s2 r2} ⟨σ7, S7, H7, I7, e7, g7, _, nb7, f7⟩ => ⟨σ7, S7, H7, I7.unpinned, e7, sub g7, hip, nb7, exf4.trans f7⟩
          cases hB : F r1 with
          | mk y1 o1 =>
            rw [hB] at hF
            cases o1 with
            | nx r2 =>
              obtain ⟨z1, z2⟩ := Prod.mk.inj hF
              rw [← z1, List.append_assoc]
              refine gr_mono (hb S4 (ip ++ pg4) ((g, gs4) :: (gl4 ++ gl)) { b with S := S4 } s5 r1 y1 (.nx r2) _ _ _ _ J' id id ok.S pl hB trivial hst fun b2 s2 fl ok2 ho => ?_) fun e z hz => Std.unbase e5.fwd hz
              cases fl with
              | next => exact gr_again rfl (next ok2 ho (by rw [← z2]))
              | _ => exact ho.elim
            | ct r2 =>
              obtain ⟨z1, z2⟩ := Prod.mk.inj hF
              rw [← z1, List.append_assoc]
              refine gr_mono (hb S4 (ip ++ pg4) ((g, gs4) :: (gl4 ++ gl)) { b with S := S4 } s5 r1 y1 (.ct r2) _ _ _ _ J' id id ok.S pl hB trivial hst fun b2 s2 fl ok2 ho => ?_) fun e z hz => Std.unbase e5.fwd hz
              cases fl with
              | cont => exact gr_again rfl (next ok2 ho (by rw [← z2]))
              | _ => exact ho.elim
            | bk r2 =>
              cases hF
              refine gr_mono (hb S4 (ip ++ pg4) ((g, gs4) :: (gl4 ++ gl)) { b with S := S4 } s5 r1 _ (.bk r2) _ _ _ _ J' id id ok.S pl hB trivial hst fun b2 s2 fl ok2 ho => ?_) fun e z hz => Std.unbase e5.fwd hz
              cases fl with
              | brk =>
                refine gr_leaf (.ok .next) ?_
                rw [hk0]
                exact kon b2 s2 .next ok2 (out ho)
              | _ => exact ho.elim
            | rt dd =>
              cases hF
              refine gr_mono (hb S4 (ip ++ pg4) ((g, gs4) :: (gl4 ++ gl)) { b with S := S4 } s5 r1 _ (.rt dd) _ _ _ _ J' id id ok.S pl hB trivial hst fun b2 s2 fl ok2 ho => ?_) fun e z hz => Std.unbase e5.fwd hz
              cases fl with
              | ret u =>
                obtain ⟨v7, σ7, S7, H7, r7, I7, f7, hv7, gs7⟩ := ho
                refine gr_leaf (.ok (.ret u)) ?_
                rw [hk0]
                exact kon b2 s2 (.ret u) ok2 ⟨v7, σ7, S7, H7, r7, I7.unpinned, f7, hv7, gs7⟩
              | _ => exact ho.elim
            | er _ _ _ _ => cases hF; exact oo.elim
            | bad => cases hF; exact oo.elim
    rw [ok.env]
    exact loop items b s1 r ys ok hF ⟨σ, S1, H1, S1, gs, pg, [], I3, e.go fw, Ex.refl, hfl.trans fw.s, g0.kept kpt hsz, sa3, .inr (Nat.le_trans g0.1 hgg), fun q hq => (by cases hq), fun q hq => ⟨fun z => absurd (hlt q hq) (by rw [z]; exact Nat.not_lt.mpr hgg), fun y hy => (by cases hy)⟩, nb.trans nb1⟩
end
end Dx
end S_DxCB
section S_DxCC
set_option Elab.async false
set_option linter.all false
set_option maxRecDepth 100000
set_option maxHeartbeats 2000000
namespace Dx
open PySem L2
open PyProof.Rows hiding St
open GenW
section
variable {X : Cx} {pins : List (Addr × Obj)} {k : Nat}
/-- the list at P is filled -/
theorem run_fill {cm : CM} {C : GCt} {a : Addr} {g : Nat} {go : Obj} {A' : Around} {R : Result → Shared → Prop} {P : Addr} {Sc Hc : Hp} {σ : L2.St} {all : List D} (hr : Room (k + 2) A') (hfr : A'.frames = some X.stack) (sl : Slp X cm C a g k go) (yg : Young X pins C.n0) (hall : all.length ≤ sizeLine) (hP : Hc P = none) (hPa : P ≠ a)
    (hend : ∀ s S H us, Inv X pins σ H s → Fwd Sc Hc S H → S P = none → H P = some (.lst us) → RpA C.K cm S us all → R (.ok (.ret .none)) s) :
    ∀ (ds : List D) (s : Shared) (S H S1 : Hp) (gs : GenState) (pg : List (Addr × Obj)) (gl : List (Nat × GenState)) (us : List V) (out : List D), Inv X (pins ++ pg) σ H s → SlpAt C a g go ds gs pg gl S1 s → Ex S1 S → Fwd Sc Hc S H → S P = none → H P = some (.lst us) → RpA C.K cm S us out → out ++ ds = all →
      codeAny (model X.prog X.w) A' (.builtin "list.extend.loop" ⟨[.ref P, .ref a, .none], []⟩) R s := by
  intro ds
  induction ds with
  | nil =>
    intro s S H S1 gs pg gl us out I sa e1 fw hS hH hu ho
    refine codeAny_builtin F.entry_extend_loop ?_
    rw [Around.under_plainId F.plain_extend_loop _]
    show wpAny _ A'.in1 (pyNext (.ref a) >>= _) _ _ s
    refine wpAny_bind (wpAny_mono (next_run hr.in1 hfr sl yg I sa e1 fw.sub) (fun r z ⟨_, _, _, q⟩ => ?_) fun _ _ q => q)
    obtain ⟨hn, S2, H2, f2, I2⟩ := q
    subst hn
    rw [List.append_nil] at ho
    subst ho
    have nS : S2 P = none := by
      cases q : S2 P with
      | none => rfl
      | some u => obtain ⟨_, z⟩ := (f2.new P u q hS).not hH; cases z
    exact wpAny_pure (hend z S2 H2 us I2 (fw.trans f2) nS (f2.h _ _ hH) (hu.mono f2.s))
  | cons d ds ih =>
    intro s S H S1 gs pg gl us out I sa e1 fw hS hH hu ho
    refine codeAny_builtin F.entry_extend_loop ?_
    rw [Around.under_plainId F.plain_extend_loop _]
    show wpAny _ A'.in1 (pyNext (.ref a) >>= _) _ _ s
    refine wpAny_bind (wpAny_mono (next_run hr.in1 hfr sl yg I sa e1 fw.sub) (fun r z ⟨_, _, _, q⟩ => ?_) fun _ _ q => q)
    obtain ⟨v, x, S4, H4, gs4, pg4, gl4, hr4, rv, hx, f4, I4, hsu, _, sa4⟩ := q
    subst hr4
    have nS : S4 P = none := by
      cases q : S4 P with
      | none => rfl
      | some u => obtain ⟨_, z⟩ := (f4.new P u q hS).not hH; cases z
    have hH4 := f4.h _ _ hH
    have hu4 := hu.mono f4.s
    obtain ⟨hle, its, n, rits, hget⟩ := I4.hok P _ hH4
    have hlen : us.length < sizeLine := by
      have h1 := hu.length
      have h2 : (out ++ d :: ds).length ≤ sizeLine := by rw [ho]; exact hall
      rw [List.length_append, List.length_cons] at h2
      omega
    have hil : its.toArray.size = us.length := by
      rw [List.size_toArray]
      exact rits.length.symm
    show wpAny _ A'.in1 (updateSeq P (·.push v) >>= _) _ _ _
    refine wpAny_bind ?_
    refine wpAny_updateSeq hget rfl (wpAny_pure ⟨plainId_quiet F.plain_extend_loop _, ?_⟩) (by rw [hil]; exact Nat.le_of_lt hlen) (by show (its.toArray.push v).size ≤ sizeLine + 1; rw [Array.size_push, hil]; omega)
    have hself := Heap.get?_update_self (Obj.mapSeq (·.push v)) hget rfl
    have oth : ∀ b u, b ≠ P → z.heap.get? b = some u → (z.heap.update P (Obj.mapSeq (·.push v))).get? b = some u := fun b u hb e => (Heap.get?_update_other _ _ (Ne.symm hb)).trans e
    have mu : Mut (H4 P) := by rw [hH4]; trivial
    have I5 : Inv X (pins ++ pg4) σ (upd H4 P (.lst (us ++ [x]))) { z with heap := z.heap.update P (Obj.mapSeq (·.push v)) } := by
      refine I4.write (t' := z.toks) mu (.inl rfl) oth ⟨_, hself⟩ ?_
      refine ⟨by rw [List.length_append, List.length_singleton]; omega, its ++ [v], (if (its.toArray.push v).size == its.toArray.size then n else n + 1), rits.append (.cons rv .nil), ?_⟩
      rw [hself]
      have e : its.toArray.push v = (its ++ [v]).toArray := by simp
      rw [← e]
      rfl
    have hne : P ≠ a := hPa
    refine ih _ S4 _ S4 gs4 pg4 gl4 (us ++ [x]) (out ++ [d]) I5 ⟨sa4.asl, sa4.hpg, sa4.hgo, sa4.hgs, sa4.hng, sa4.hgl, ?_, sa4.hos⟩ Ex.refl ((fw.trans f4).put hP nS (Tk.at hH4 .lst)) nS upd_same (hu4.app (.one hx)) (by rw [List.append_assoc]; exact ho)
    show C.n0 ≤ (z.heap.update P _).objs.size
    rw [Heap.size_update]
    exact sa4.hsz
/-- list of a generator that has just been made -/
theorem call_listGD {cm : CM} {σ : L2.St} {sc s : Shared} {S H : Hp} {items : List D} {u : Value} {Q : Value → Shared → Prop} {E : Value → Shared → Prop} {A' : Around} (hr : Room (k + 5) A') (hfr : A'.frames = some X.stack) (I : Inv X pins σ H sc) (ex : Ex S H) (made : GMadeD X cm k sc S H items u s) (hlen : items.length ≤ sizeLine)
    (hQ : ∀ z S' H' P us, Inv X pins σ H' z → Fwd S H S' H' → H P = none → S' P = none → H' P = some (.lst us) → RpA X.K cm S' us items → Q (.ref P) z) : wpAny (model X.prog X.w) A' (call (.type "list") [u]) Q E s := by
  obtain ⟨C, a, g, go, gs, pg, rfl, sl, yg, hgen, I1, sa, _, _⟩ := made.slp I
  have ha2 : a < s.heap.objs.size := Heap.lt_size (I1.pin (a, go) (List.mem_append_right _ (List.mem_append_right _ sa.hgo))).1
  let P := s.heap.objs.size
  have hPa : P ≠ a := Nat.ne_of_gt ha2
  have hHP : H P = none := I1.hok.fresh (Nat.le_refl _)
  let o0 : Obj := { cls := .type "list", data := .seq #[] }
  refine callType_codes (Q₁ := fun obj z => obj = .ref P ∧ z = { s with heap := s.heap.push o0 }) F.called_list (F.typeCall_list_1 _) F.entry_list_init ?_ fun obj z hz => ?_
  · exact code_list_new _ ⟨rfl, rfl⟩
  obtain ⟨rfl, rfl⟩ := hz
  have g0 : (s.heap.push o0).get? P = some o0 := Heap.get?_push_size _ rfl
  refine ⟨⟨_, g0, rfl⟩, F.args_list_init_2 _ _, ?_⟩
  show wpAny (model X.prog X.w) A'.in1.in1 (Builtin.List.listItems (.ref P) >>= fun old => Builtin.List.listUpdate (.ref P) (fun _ => #[]) >>= fun _ => letGo old.toList.reverse >>= fun _ => Builtin.List.listExtendWith (.ref P) (.ref a) .none) _ _ _
  refine wpAny_bind ?_
  unfold Builtin.List.listItems
  refine wpAny_bind (wpAny_seqItems g0 rfl (wpAny_pure ?_))
  refine wpAny_bind (m := updateSeq P (fun _ => #[])) (wpAny_updateSeq g0 rfl ?_)
  have g1 := Heap.get?_update_self (Obj.mapSeq (fun _ => (#[] : Array Value))) g0 rfl
  refine wpAny_bind (m := letGo (#[] : Array Value).toList.reverse) (wpAny_letGo ?_)
  unfold Builtin.List.listExtendWith
  have step : ∀ (h : Heap) (f : Obj → Obj), (∀ b o, s.heap.get? b = some o → h.get? b = some o) → ∀ b o, s.heap.get? b = some o → (h.update P f).get? b = some o := fun h f q b o e =>
    (Heap.get?_update_other h f (Ne.symm (Nat.ne_of_lt (Heap.lt_size e)))).trans (q b o e)
  have kp0 : ∀ b o, s.heap.get? b = some o → (s.heap.push o0).get? b = some o := fun b o e => Heap.get?_push_of_some _ e
  have kp1 := step _ (Obj.mapSeq (fun _ => (#[] : Array Value))) kp0
  have isg : ∀ {h : Heap}, (∀ b o, s.heap.get? b = some o → h.get? b = some o) → h.IsGen a g := fun q => hgen.keeps q
  refine wpAny_bind (wpAny_typeOf (Heap.IsGen.typeIs (s := { s with heap := _ }) (isg kp1)) ?_)
  have c1 : Builtin.List.listSameRef (.ref P) (.ref a) = false := by simp [Builtin.List.listSameRef, hPa]
  have c2 : (Value.type "generator" == Value.type "list") = false := by decide
  have c3 : (Value.type "generator" == Value.type "tuple") = false := by decide
  simp only [c1, c2, c3, Bool.or_false, Bool.false_eq_true, if_false]
  refine wpAny_bind (wpAny_pyIter_gen (s := { s with heap := _ }) (isg kp1) ?_)
  refine wpAny_bind (wpAny_holding ?_)
  unfold Builtin.List.listLengthHint
  refine wpAny_bind (wpAny_specialOf (Heap.IsGen.typeIs (s := { s with heap := _ }) (isg kp1)) F.gen_no_len ?_)
  refine wpAny_bind (m := specialOf (Value.ref a) (Str.ofString "__length_hint__")) ?_
  refine wpAny_specialOf (Heap.IsGen.typeIs (s := { s with heap := _ }) (isg kp1)) F.gen_no_hint ?_
  refine wpAny_pure ?_
  refine wpAny_bind (m := rule "list.extend.makes-room") (wpAny_rule ?_)
  refine wpAny_bind (m := Builtin.List.listTouch (.ref P)) ?_
  show wpAny (model X.prog X.w) A'.in1.in1 (updateSeq P (·.push .none) >>= fun _ => updateSeq P (·.pop)) _ _ _
  refine wpAny_bind (wpAny_updateSeq g1 rfl ?_)
  have g2 := Heap.get?_update_self (Obj.mapSeq (·.push Value.none)) g1 rfl
  refine wpAny_updateSeq (hz := by seq_fits) g2 rfl ?_
  have g3 := Heap.get?_update_self (Obj.mapSeq (·.pop)) g2 rfl
  have kp3 := step _ (Obj.mapSeq (·.pop)) (step _ (Obj.mapSeq (·.push Value.none)) kp1)
  refine wpAny_pure ⟨plainId_quiet F.plain_extend_loop _, ?_⟩
  have I2 : Inv X (pins ++ pg) σ (upd H P (.lst [])) { s with heap := (((s.heap.push o0).update P (Obj.mapSeq (fun _ => (#[] : Array Value)))).update P (Obj.mapSeq (·.push Value.none))).update P (Obj.mapSeq (·.pop)) } := by
    refine I1.laid (t' := s.toks) kp3 (Nat.le_refl _) ?_
    refine ⟨Nat.zero_le _, [], 2, .nil, ?_⟩
    rw [g3]
    rfl
  have hr2 : Room (k + 2) A'.in1 := ⟨hr.hd, by have := hr.dp; show A'.depth + _ + _ < _; omega, by have := hr.un; show A'.units + 1 + _ + _ < _; omega⟩
  refine run_fill (X := X) (pins := pins) (k := k) (cm := cm) (C := C) (a := a) (g := g) (go := go) (A' := A'.in1) (P := P) (Sc := S) (Hc := H) (σ := σ) (all := items) hr2 hfr sl yg hlen hHP hPa (fun z S' H' us I' f' h1 h2 h3 => ⟨rfl, hQ z S' H' P us I' f' hHP h1 h2 (by rw [← sl.K]; exact h3)⟩)
    items _ S _ S gs pg [] [] [] I2 ⟨sa.asl, sa.hpg, sa.hgo, sa.hgs, sa.hng, fun q hq => (by cases hq), ?_, sa.hos⟩ Ex.refl (Fwd.heap ex hHP) (ex.nn hHP) upd_same .nil rfl
  have := sa.hsz
  show C.n0 ≤ (Heap.update _ _ _).objs.size
  rw [Heap.size_update, Heap.size_update, Heap.size_update, Heap.size_push]
  omega
end
section
variable {X : Cx} {c : Cf} {G : List Ow} {k : Nat} {pos p : Pos}
noncomputable def dListG (its : Rho → Res (List D)) : Rho → Res D := fun r => match its r with
  | .ok ds => guard (ds.length ≤ sizeLine) (.ok (.lst ds))
  | _ => .bad
/-- list(e), e a generator -/
theorem de_listG {e : Expr} {its : Rho → Res (List D)} {nm : Str} (hr : Room (k + 5) X.A) (h : GEx X c G k e its) (hg : Gl X nm) (hmg : X.mg nm = none) (hv : bootBuiltins nm = some (.type "list")) (hK : c.K = X.K := by rfl) (hnm : nm ≠ "__name__" := by decide) (hdb : (nm == ("__debug__" : Str)) = false := by decide)
    (he : starEach [e] X.env = (false, eval e X.env) :: starEach [] X.env := by rfl) : PE X (.Call (.Name nm p) [e] [] pos) (tO c G (dListG its)) := by
  refine ⟨fun pins s σ H Q I ⟨S0, H0, S, r, ok, q⟩ => ?_⟩
  unfold dListG at q
  cases hits : its r with
  | err n ns vs => rw [hits] at q; exact q.elim
  | bad => rw [hits] at q; exact q.elim
  | ok items =>
    rw [hits] at q
    obtain ⟨hlen, q⟩ := q.gd
    refine wpAny_Call_Name_kw (ld_blt I hg hmg hv ?_ hnm hdb)
    refine PyProof.Rows.callWith_type1 ?_ he rfl
    rw [he]
    show wpAny (model X.prog X.w) X.A (spliced ((false, eval e X.env) :: backTo pos (starEach ([] : List Expr) X.env))) _ _ s
    refine Calls.spliced_cons (thn (h.run pins s σ S0 H0 S H r items I ok hits) fun u s1 ⟨S1, H1, sc, _, f1, I1, made⟩ => ?_)
    refine Calls.spliced_nil ?_
    refine call_listGD hr I1.ok.frames I1 f1.sub made hlen fun z S' H' P us I' f' h0 h1 h2 h3 => ?_
    exact ⟨.ref P, H', I', rfl, q S' H' (f1.trans f') _ ⟨P, .lst us, rfl, f1.h.nn h0, h1, h2, .lst (by rw [hK]; exact h3)⟩⟩
end
end Dx
end S_DxCC
section S_DxCD
set_option Elab.async false
set_option linter.all false
set_option maxRecDepth 100000
set_option maxHeartbeats 2000000
namespace Dx
open PySem L2
open PyProof.Rows hiding St
open GenW
def nilG : Rho → List D × SR := fun r => ([], .nx r)
theorem gl_nil {C : GCt} {L G : List Ow} : GStms C L G G [] nilG := gss_nil
theorem GCt.Ok.rx {C : GCt} {b : GB} {k : Nat} (h : C.Ok b) (hk : C.k = k) : Room k (C.X b).A := by
  rw [h.A, ← hk]
  exact h.room
def voB : Ow → Bool
  | .v => true
  | .o => true
  | _ => false
theorem hvo {G : List Ow} (h : G.all voB = true) : ∀ i, kd G i = .v ∨ kd G i = .o := fun i => by
  unfold kd
  rw [List.getD_eq_getElem?_getD]
  cases q : G[i]? with
  | none => exact .inl rfl
  | some k =>
    have := List.all_eq_true.mp h k (List.mem_of_getElem? q)
    cases k with
    | v => exact .inl rfl
    | o => exact .inr rfl
    | _ => cases this
theorem dl_nil : ∀ r ds, dNil r = .ok ds → ds.length = 0 := fun r ds h => by cases h; rfl
theorem dl_cons {f : Rho → Res D} {fs : Rho → Res (List D)} {n : Nat} (h : ∀ r ds, fs r = .ok ds → ds.length = n) : ∀ r ds, dCons f fs r = .ok ds → ds.length = n + 1 := fun r ds e => by
  have e : (f r).bind (fun x => (fs r).bind fun xs => .ok (x :: xs)) = .ok ds := e
  cases h1 : f r with
  | err _ _ _ => rw [h1] at e; cases e
  | bad => rw [h1] at e; cases e
  | ok x =>
    rw [h1] at e
    cases h2 : fs r with
    | err _ _ _ => rw [h2] at e; cases e
    | bad => rw [h2] at e; cases e
    | ok xs =>
      rw [h2] at e
      cases e
      rw [List.length_cons, h r xs h2]
abbrev gctOf (P : Program) (w : World) (K : PySem.W.Frag) (mg : Str → Option Value) (base : Heap) (cm : CM) (N : List Str) (qual : Str) (scope : Scope) (f : Addr) (k : Nat) (cd : Value) (outer : List Env) (n0 : Nat) (os : OsState) (pn : List (Addr × Obj)) : GCt :=
  { P := P, w := w, K := K, mg := mg, base := base, cm := cm, N := N, qual := qual, scope := scope, f := f, cd := cd, outer := outer, n0 := n0, os := os, k := k, pn := pn }
theorem dokGen {P : Program} {w : World} {K : PySem.W.Frag} {mg : Str → Option Value} {base : Heap} {cm : CM} {x qual : Str} {st : Stmt} {f : Addr} {fd : FuncData} {N ps : List Str} {k : Nat} {G' : List Ow} {Fb : Rho → List D × SR} (F : Fun K x qual st f fd) (S : GScope N ps (defScope st)) (hsc : NoCell (defScope st)) (hn : ps.length ≤ N.length)
    (hb : ∀ cd outer n0 os pn, (∀ q ∈ pn, n0 ≤ q.1) → GStms (gctOf P w K mg base cm N qual (defScope st) f k cd outer n0 os pn) [] (G0 (List.replicate ps.length false) N.length) G' (defBody st) Fb) : GFnD P w K mg base cm (k + 1) f fd ps (runGF N.length Fb) :=
  dokG F S hsc hn fun C h1 h2 h3 h4 h5 h6 h7 h8 h9 h10 h11 h12 => by
    obtain ⟨P', w', K', mg', base', cm', N', qual', scope', f', cd', outer', n0', os', k', pn'⟩ := C
    dsimp only at h1 h2 h3 h4 h5 h6 h7 h8 h9 h10 h11
    subst h1 h2 h3 h4 h5 h6 h7 h8 h9 h10 h11
    exact hb cd' outer' n0' os' pn' h12
section
variable {X : Cx} {c : Cf} {L G G' : List Ow} {tg : Expr} {pos p : Pos} {k : Nat}
theorem de_listGen {e : Expr} {its : Rho → Res (List D)} {nm : Str} (h : GEx X c G k e its) (hr : Room (k + 5) X.A) (hg : Gl X nm) (hmg : X.mg nm = none) (hv : bootBuiltins nm = some (.type "list")) (hK : c.K = X.K := by rfl) (hnm : nm ≠ "__name__" := by decide) (hdb : (nm == ("__debug__" : Str)) = false := by decide)
    (he : starEach [e] X.env = (false, eval e X.env) :: starEach [] X.env := by rfl) : PE X (.Call (.Name nm p) [e] [] pos) (tO c G (dListG its)) := de_listG hr h hg hmg hv hK hnm hdb he
end
section
variable {C : GCt} {L G G' : List Ow}
theorem gs_forGen {tg iter : Expr} {body : List Stmt} {pos : Pos} {k m : Nat} {its : Rho → Res (List D)} {ks : List Nat} {t : D → Rho → Res Rho} {F : Rho → List D × SR} (hm : C.k = m) (hi : ∀ b, C.Ok b → GEx (C.X b) C.cf G k iter its) (hk : k + 1 ≤ m) (ht : ∀ b, C.Ok b → PG (C.X b) tg (gD C.cf G G' ks t)) (hb : GStms C G G' G body F)
    (hs : ∀ x, foldedSetIterable iter C.env x = pure x := by intro _; rfl) : GStm C L G G (.For tg iter body [] pos) (forGG its t F) := gs_forG (by rw [hm]; exact hk) hi ht hb hs
end
end Dx
end S_DxCD
section S_DxCE
set_option Elab.async false
set_option linter.all false
set_option maxRecDepth 100000
set_option maxHeartbeats 2000000
namespace L2N
open PySem L2
/-- around a body nothing is let out -/
theorem takes0 {X : Cx} {W : WX} (h : ∀ cls d σ H, ¬ W cls d σ H := by exact fun _ _ _ _ z => z) : L2N.Takes X W := by
  rintro _ _ ⟨_, _, _, _, _, _, _, _, _, _, _, _, _, _, _, _, z⟩
  exact (h _ _ _ _ z).elim
end L2N
namespace Dx
open PySem PySem.Spec L2 ItX PyProof.Rows
end Dx
end S_DxCE
section S_DxCH
set_option Elab.async false
set_option linter.all false
set_option maxRecDepth 100000
set_option maxHeartbeats 2000000
namespace Dx
open PySem L2 PyProof.Rows
section
variable {X : Cx} {pins : List (Addr × Obj)} {σ : L2.St} {S H : Hp} {s : Shared} {cm : CM}
mutual
theorem nk_is (I : Inv X pins σ H s) (ex : Ex S H) : ∀ {d : D} {v : V} {u : Value} {k : NestedKey}, Rp X.K cm S v d → nkD d = some k → RelV v u → NestedIs s.heap k u
  | .non, _, _, _, h, q, r => by cases h; cases q; cases r; exact .none
  | .bl b, _, _, _, h, q, r => by cases h; cases q; cases r; exact .bool rfl
  | .int i, _, _, _, h, q, r => by cases h; cases q; obtain ⟨t, rfl⟩ := r; exact .int i t
  | .tup ds, _, _, _, h, q, r => by
    cases h with | @tup a xs _ hS rr =>
    cases r
    rw [nkD] at q
    obtain ⟨ks, h1, rfl⟩ := Option.map_eq_some_iff.mp q
    obtain ⟨its, rv, ⟨o, ho, hc, n, hd⟩, _⟩ := I.tuple (.inl (.inl (ex _ _ hS)))
    exact .tup ho hc hd (by simpa using nk_all I ex rr h1 rv)
  | .kt ds, _, _, _, h, q, r => by
    cases h with | @kt a xs _ hS rr =>
    cases r
    rw [nkD] at q
    obtain ⟨ks, h1, rfl⟩ := Option.map_eq_some_iff.mp q
    obtain ⟨its, rv, ⟨o, ho, hc, n, hd⟩, _⟩ := I.tuple (ex.t hS)
    exact .tup ho hc hd (by simpa using nk_all I ex rr h1 rv)
  | .str _, _, _, _, _, q, _ => by cases q
  | .lst _, _, _, _, _, q, _ => by cases q
  | .fz _, _, _, _, _, q, _ => by cases q
  | .dk _ _, _, _, _, _, q, _ => by cases q
  | .dt _ _, _, _, _, _, q, _ => by cases q
  | .dn _ _, _, _, _, _, q, _ => by cases q
  | .obj _ _ _, _, _, _, _, q, _ => by cases q
  | .own _, _, _, _, _, q, _ => by cases q
  | .st _ _, _, _, _, _, q, _ => by cases q
theorem nk_all (I : Inv X pins σ H s) (ex : Ex S H) : ∀ {ds : List D} {vs : List V} {us : List Value} {ks : List NestedKey}, RpA X.K cm S vs ds → nkL ds = some ks → Vals vs us → NestedAll s.heap ks us
  | [], _, _, _, h, q, r => by cases h; cases q; cases r; exact .nil
  | d :: ds, _, _, _, h, q, r => by
    cases h with | cons h1 h2 =>
    cases r with | cons r1 r2 =>
    rw [nkL] at q
    cases e1 : nkD d with
    | none => rw [e1] at q; cases q
    | some k =>
      cases e2 : nkL ds with
      | none => rw [e1, e2] at q; cases q
      | some ks =>
        rw [e1, e2] at q
        cases q
        exact .cons (nk_is I ex h1 e1 r1) (nk_all I ex h2 e2 r2)
end
theorem nkT_some {d : D} {k : NestedKey} (h : nkT d = some k) : nkD d = some k ∧ k.depth ≤ 8 ∧ ∃ ks, k = .tup ks := by
  unfold nkT at h
  split at h
  · rename_i ks e
    split at h
    · rename_i hd
      cases h
      exact ⟨e, hd, ks, rfl⟩
    · cases h
  · cases h
theorem nkT_is (I : Inv X pins σ H s) (ex : Ex S H) {d : D} {v : V} {k : NestedKey} (h : Rp X.K cm S v d) (q : nkT d = some k) : ∃ a, v = .ref a ∧ (nestedKind X.prog X.w).is s.heap k a := by
  obtain ⟨h1, h2, ks, rfl⟩ := nkT_some q
  have ref : ∃ a, v = .ref a := by
    cases d with
    | tup _ => cases h; exact ⟨_, rfl⟩
    | kt _ => cases h; exact ⟨_, rfl⟩
    | non => cases h1
    | bl _ => cases h1
    | int _ => cases h1
    | _ => cases h1
  obtain ⟨a, rfl⟩ := ref
  exact ⟨a, rfl, nk_is I ex h h1 rfl, h2⟩
theorem ext_at {q p : Addr} {ob : Obj} {es : List (NestedKey × Addr × V)} (I : Inv X pins σ H s) (h : Rd H q (.ext (dnP p ob es))) : p = q ∧ dnP p ob es s.heap := by
  have ok : ObjOk X.prog X.w H s.heap q (.ext (dnP p ob es)) := by
    rcases h with h | ⟨o, h⟩
    · exact I.hok q _ h
    · exact (I.hok q _ h).2
  obtain ⟨h1, _, st⟩ := ok
  refine ⟨?_, h1⟩
  apply Classical.byContradiction
  intro hne
  have h2 := st s.heap (PySem.W.hideAll s.heap [p]) h1 fun o e => PySem.W.hideAll_get _ e (by simp; exact fun z => hne z.symm)
  obtain ⟨_, _, o, _, _, _, ho, _⟩ := h2
  rw [PySem.W.hideAll_none _ (by simp)] at ho
  cases ho
theorem paired_get {α β : Type} {F : α → β → Prop} : ∀ {xs : List α} {ys : List β} {i : Nat} {x : α}, Paired F xs ys → xs[i]? = some x → ∃ y, ys[i]? = some y ∧ F x y
  | _, _, 0, _, .cons h _, e => by simp at e; subst e; exact ⟨_, by simp, h⟩
  | _, _, i + 1, x, .cons _ t, e => by
    obtain ⟨y, h1, h2⟩ := paired_get (i := i) (x := x) t (by simpa using e)
    exact ⟨y, by simpa using h1, h2⟩
  | _, _, _, _, .nil, e => by simp at e
theorem dn_at {q p : Addr} {ob : Obj} {es : List (NestedKey × Addr × V)} {ks : List D} (I : Inv X pins σ H s) (ex : Ex S H) (h : Rd H q (.ext (dnP p ob es))) (nk : NkOk es ks) (rk : RpA X.K cm S (es.map fun e => .ref e.2.1) ks) :
    p = q ∧ (q == sysModules) = false ∧ ∃ xs, Paired EntOk es xs ∧ s.heap.DictOfH (nestedKind X.prog X.w) q xs := by
  obtain ⟨rfl, hs, xs, o, eps, ep, rel, ho, hx, hd, he, eo⟩ := ext_at I h
  refine ⟨rfl, hs, xs, rel, o, eps, ep, ho, hx, hd, he X.w, fun x hx => ?_, ?_⟩
  · obtain ⟨i, hi⟩ := List.getElem?_of_mem hx
    have hl := Paired.length rel
    have hlt : i < es.length := by rw [hl]; exact (List.getElem?_eq_some_iff.mp hi).1
    obtain ⟨e, hei⟩ : ∃ e, es[i]? = some e := ⟨es[i], List.getElem?_eq_getElem hlt⟩
    have en : EntOk e x := by
      obtain ⟨y, hy, q⟩ := paired_get rel hei
      rw [hi] at hy; cases hy
      exact q
    obtain ⟨d, hd1, hr⟩ := rk.getV (i := i) (v := .ref e.2.1) (by rw [List.getElem?_map, hei]; rfl)
    have hk : nkT d = some e.1 := by
      have := congrArg (fun l => l[i]?) nk.eq
      simp only [List.getElem?_map, hei, hd1, Option.map_some] at this
      exact Option.some.inj this
    obtain ⟨a, ha, is⟩ := nkT_is I ex hr hk
    cases ha
    rw [← en.1, ← en.2.1]
    exact is
  · have : xs.map (·.1) = es.map (·.1) := by
      clear he hd hx ho ex nk rk h I
      induction rel with
      | nil => rfl
      | cons h _ ih => rw [List.map_cons, List.map_cons, ih, h.1]
    rw [this]
    exact nk.nd
end
end Dx
end S_DxCH
section S_DxCI
set_option Elab.async false
set_option linter.all false
set_option maxRecDepth 100000
set_option maxHeartbeats 2000000
namespace Dx
open PySem L2 PyProof.Rows
section
variable {X : Cx} {c : Cf} {L G G' : List Ow} {a b e : Expr} {pos : Pos} {f f1 f2 : Rho → Res D} {k : Nat}
/-- the key v, the dict at q -/
structure KeyAt (K : PySem.W.Frag) (cm : CM) (S H : Hp) (y x : V) (n : NestedKey) (q p : Addr) (ob : Obj) (es : List (NestedKey × Addr × V)) (d : D) (ks : List D) : Prop where
  ex : Ex S H
  key : Rp K cm S y d
  nk : nkT d = some n
  rd : Rd H q (.ext (dnP p ob es))
  ok : NkOk es ks
  keys : RpA K cm S (es.map fun e => .ref e.2.1) ks
  eq : x = .ref q
theorem KeyAt.at {K : PySem.W.Frag} {cm : CM} {S H : Hp} {y x : V} {n : NestedKey} {q p : Addr} {ob : Obj} {es : List (NestedKey × Addr × V)} {d : D} {ks : List D} {pins : List (Addr × Obj)} {σ : L2.St} {s : Shared} {u w : Value} (h : KeyAt K cm S H y x n q p ob es d ks) (hK : K = X.K) (I : Inv X pins σ H s) (ry : RelV y u) (rx : RelV x w) :
    w = .ref q ∧ p = q ∧ (q == sysModules) = false ∧ ∃ a, u = .ref a ∧ (nestedKind X.prog X.w).is s.heap n a ∧ ∃ xs, Paired EntOk es xs ∧ s.heap.DictOfH (nestedKind X.prog X.w) q xs := by
  subst hK
  obtain ⟨a, rfl, hk⟩ := nkT_is I h.ex h.key h.nk
  obtain ⟨hp, hs, xs, rel, dd⟩ := dn_at I h.ex h.rd h.ok h.keys
  have := h.eq
  subst this
  exact ⟨rx, hp, hs, a, ry, hk, xs, rel, dd⟩
end
end Dx
end S_DxCI
section S_DxCJ
set_option Elab.async false
set_option linter.all false
set_option maxRecDepth 100000
set_option maxHeartbeats 2000000
namespace Dx
open PySem L2 PyProof.Rows
end Dx
end S_DxCJ
section S_DxCK
set_option Elab.async false
set_option linter.all false
set_option maxRecDepth 100000
set_option maxHeartbeats 2000000
namespace Dx
open PySem L2
section
variable {c : Cf} {S0 H0 S H S' H' : Hp} {G : List Ow} {σ : L2.St} {r : Rho}
/-- a value, or what stays as it is -/
def VB (c : Cf) (G : List Ow) (S H0 : Hp) (j : Nat) (v : V) (d : D) : Prop := (kd G j = .v ∧ Rp c.K c.cm S v d) ∨ (kd G j = .b ∧ RpB c.K c.cm S H0 v d)
theorem VB.slot {c : Cf} {G : List Ow} {S H H0 : Hp} {j : Nat} {v : V} {d : D} (h : VB c G S H0 j v d) : SlotOk c H0 S H (kd G j) v d := by
  rcases h with ⟨h1, h2⟩ | ⟨h1, h2⟩
  · rw [h1]; exact h2
  · rw [h1]; exact h2
theorem VB.up {c : Cf} {G G' : List Ow} {S S' H0 H0' : Hp} {j : Nat} {v : V} {d : D} (h : VB c G S H0 j v d) (hk : kd G' j = kd G j) (e : Ex S S') (f : ∀ b o, H0 b = some o → H0' b = some o) : VB c G' S' H0' j v d := by
  rcases h with ⟨h1, h2⟩ | ⟨h1, h2 | ⟨p, ho, q1, q2, q3⟩⟩
  · exact .inl ⟨hk.trans h1, h2.mono e⟩
  · exact .inr ⟨hk.trans h1, .inl (h2.mono e)⟩
  · exact .inr ⟨hk.trans h1, .inr ⟨p, ho, q1, f _ _ q2, q3.mono e⟩⟩
theorem VB.of {c : Cf} {G : List Ow} {S H H0 : Hp} {j : Nat} {v : V} {d : D} (hk : kd G j = .v ∨ kd G j = .b) (h : SlotOk c H0 S H (kd G j) v d) : VB c G S H0 j v d := by
  rcases hk with hk | hk
  · rw [hk] at h; exact .inl ⟨hk, h⟩
  · rw [hk] at h; exact .inr ⟨hk, h⟩
end
section
variable {X : Cx} {c : Cf} {L G G' : List Ow} {e : Expr} {pos apos cpos : Pos} {f f1 : Rho → Res D} {k : Nat} {x fl n : Str} {i g : Nat} {C a q : Addr} {fs : List (Str × V)} {pn p' : Pos}
theorem Tk.un {H : Hp} {a : Addr} {o : HO} (pl : Pl o) : Tk (upd H a o) H := .butP (O := fun b => b = a) (fun b z => by subst z; exact ⟨o, upd_same, pl⟩) fun b u hb e => by
  rw [upd_ne hb] at e; exact e
end
end Dx
end S_DxCK
section S_DxCL
set_option Elab.async false
set_option linter.all false
set_option maxRecDepth 100000
set_option maxHeartbeats 2000000
namespace Dx
open PySem L2
end Dx
end S_DxCL
section S_DxCM
set_option Elab.async false
set_option linter.all false
set_option maxRecDepth 100000
set_option maxHeartbeats 2000000
namespace Dx
open PySem PySem.Spec L2 ItX PyProof.Rows
end Dx
end S_DxCM
section S_DxCN
set_option Elab.async false
set_option linter.all false
set_option maxRecDepth 100000
set_option maxHeartbeats 2000000
namespace Dx
open PySem PySem.Spec L2 PyProof.Rows
end Dx
end S_DxCN
section S_DxCO
set_option Elab.async false
set_option linter.all false
set_option maxRecDepth 100000
set_option maxHeartbeats 2000000
namespace Dx
open PySem L2
end Dx
end S_DxCO
section S_DxCP
set_option Elab.async false
set_option linter.all false
set_option maxRecDepth 100000
set_option maxHeartbeats 2000000
namespace Dx
open PySem L2
end Dx
end S_DxCP
section S_DxCQ
set_option Elab.async false
set_option linter.all false
set_option maxRecDepth 100000
set_option maxHeartbeats 2000000
namespace Dx
open PySem L2 PyProof.Rows
/-- H1 is H, or H with a new code object in the table at P -/
def LamK (P : Addr) (q : Str) (H H1 : Hp) : Prop := H1 = H ∨ ∃ ps ps' cN, H P = some (.tbl ps) ∧ H cN = none ∧ H1 = upd (upd H P (.tbl ps')) cN (LamX.CodeO cN q) ∧ LamX.TabS H1 P q
theorem LamK.nx {P : Addr} {q : Str} {H H1 : Hp} (k : LamK P q H H1) : Ex H H1 := fun a o e => by
  rcases k with rfl | ⟨ps, ps', cN, h1, h2, rfl, h3⟩
  · exact .mk e
  · have n1 : a ≠ cN := fun z => by rw [z, h2] at e; cases e
    by_cases hp : a = P
    · subst hp
      rw [h1] at e
      cases e
      exact ⟨ps', by rw [upd_ne n1, upd_same]⟩
    · exact .mk (by rw [upd_ne n1, upd_ne hp]; exact e)
theorem LamK.tk {P : Addr} {H H1 : Hp} (k : LamK P lamN H H1) : Tk H H1 := fun P' ⟨qs, e1, e2, e3⟩ => by
  rcases k with rfl | ⟨ps, ps', cN, h1, h2, rfl, h3⟩
  · exact ⟨qs, e1, e2, e3⟩
  · by_cases hp : P' = P
    · rw [hp]; exact h3
    · have n1 : P' ≠ cN := fun z => by rw [z, h2] at e1; cases e1
      refine ⟨qs, by rw [upd_ne n1, upd_ne hp]; exact e1, e2, fun pos cv hc => ?_⟩
      obtain ⟨cA, z1, z2⟩ := e3 pos cv hc
      refine ⟨cA, z1, ?_⟩
      have n2 : cA ≠ cN := fun z => by rw [z, h2] at z2; cases z2
      have n3 : cA ≠ P := fun z => by
        rw [z, h1] at z2
        exact LamX.codeO_ne ps (Option.some.inj z2).symm
      rw [upd_ne n2, upd_ne n3]
      exact z2
end Dx
end S_DxCQ
section S_DxCR
set_option Elab.async false
set_option linter.all false
set_option maxRecDepth 100000
set_option maxHeartbeats 2000000
namespace Dx
open PySem L2
end Dx
end S_DxCR
section S_DxCS
set_option Elab.async false
set_option linter.all false
set_option maxRecDepth 100000
set_option maxHeartbeats 2000000
namespace Dx
open PySem L2 PyProof.Rows
end Dx
end S_DxCS
section S_DxCT
set_option Elab.async false
set_option linter.all false
set_option maxRecDepth 100000
set_option maxHeartbeats 2000000
namespace Dx
open PySem L2
end Dx
end S_DxCT
section S_DxCU
set_option Elab.async false
set_option linter.all false
set_option maxRecDepth 100000
set_option maxHeartbeats 2000000
namespace Dx
open PySem L2
section
variable {X : Cx} {c : Cf} {G : List Ow} {e : Expr} {es : List Expr} {pos p : Pos} {x : Str} {k : Nat} {f : Addr} {fd : FuncData} {ps : List Str} {ms ms2 : List Bool} {rm : Bool} {F : List D → Res D} {fs : Rho → Res (List D)}
theorem RpM.app {S H : Hp} : ∀ {ms ms2 : List Bool} {vs vs2 : List V} {ds ds2 : List D}, RpM c S H ms vs ds → RpM c S H ms2 vs2 ds2 → RpM c S H (ms ++ ms2) (vs ++ vs2) (ds ++ ds2)
  | [], _, [], _, [], _, _, h => h
  | true :: ms, _, v :: vs, _, d :: ds, _, h, k => ⟨h.1, RpM.app h.2 k⟩
  | false :: ms, _, v :: vs, _, d :: ds, _, h, k => ⟨h.1, RpM.app h.2 k⟩
  | [], _, _ :: _, _, _, _, h, _ => h.elim
  | [], _, [], _, _ :: _, _, h, _ => h.elim
  | true :: _, _, [], _, _, _, h, _ => h.elim
  | true :: _, _, _ :: _, _, [], _, h, _ => h.elim
  | false :: _, _, [], _, _, _, h, _ => h.elim
  | false :: _, _, _ :: _, _, [], _, h, _ => h.elim
end
end Dx
end S_DxCU
section S_DxCV
set_option Elab.async false
set_option linter.all false
set_option maxRecDepth 100000
set_option maxHeartbeats 2000000
namespace Dx
open PySem L2 HandSPX
open PyProof.Rows hiding St
open GenW
end Dx
end S_DxCV
section S_DxCW
set_option Elab.async false
set_option linter.all false
set_option maxRecDepth 100000
set_option maxHeartbeats 2000000
namespace Dx
open PySem L2
end Dx
end S_DxCW
section S_DxCX
set_option Elab.async false
set_option linter.all false
set_option maxRecDepth 100000
set_option maxHeartbeats 2000000
namespace Dx
open PySem L2
end Dx
end S_DxCX
section S_DxCY
set_option Elab.async false
set_option linter.all false
set_option maxRecDepth 100000
set_option maxHeartbeats 2000000
namespace Dx
open PySem L2
def ltOk (p q : PyData) : Bool := PySem.W.alike p q && (match p with | .none => false | _ => true) && decide (min p.depth q.depth ≤ 64)
def ltDD (d e : D) : Res D := match toPy d, toPy e with
  | some p, some q => if ltOk p q = true then .ok (.bl (PySem.W.dataLt p q)) else .bad
  | _, _ => .bad
section
variable {X : Cx} {c : Cf}
def rLtD (K : PySem.W.Frag) : R2 := fun x y H Q => ∃ d e, Dp K H x d ∧ Dp K H y e ∧ ltOk d e = true ∧ Q (.bl (PySem.W.dataLt d e)) H
theorem op_ltD (hu : X.A.units + 64 < cLine) : OpR X (compareOp .Lt) (rLtD X.K) := by
  intro pins s σ H x y v u Q I rx ry h
  obtain ⟨d, e, hd, he, hk, q⟩ := h
  obtain ⟨as, r1⟩ := Dp.reads I d x v hd rx
  obtain ⟨bs, r2⟩ := Dp.reads I e y u he ry
  unfold ltOk at hk
  rw [Bool.and_eq_true, Bool.and_eq_true] at hk
  obtain ⟨⟨k1, k2⟩, k3⟩ := hk
  have k3 := of_decide_eq_true k3
  exact PySem.W.rcLt_alike d e X.A s v u as bs r1 r2 k1 (fun z => by rw [z] at k2; cases k2) (by omega) X.prog X.w X.xe (EP X pins σ Q) ⟨.bl _, H, I, rfl, q⟩
theorem os_ltD : OpS c (mV c) (rLtD c.K) ltDD := by
  intro σ S H x y d e Q ex hx hy p
  unfold ltDD at p
  split at p
  · rename_i u v h1 h2
    by_cases hk : ltOk u v = true
    · rw [if_pos hk] at p
      exact ⟨u, v, hx.dp ex h1, hy.dp ex h2, hk, p.here ex (.bl _)⟩
    · rw [if_neg hk] at p
      exact p.elim
  · exact p.elim
theorem rs_ltDD {d e : D} {p q : PyData} {Q : D → Prop} {E : Str → List Str → List D → Prop} (h1 : toPy d = some p) (h2 : toPy e = some q) (h3 : ltOk p q = true) (z : Q (.bl (PySem.W.dataLt p q))) : Rs (ltDD d e) Q E := by
  unfold ltDD
  rw [h1, h2]
  dsimp only
  rw [if_pos h3]
  exact z
end
end Dx
end S_DxCY
section S_DxCZ
set_option Elab.async false
set_option linter.all false
set_option maxRecDepth 100000
set_option maxHeartbeats 2000000
namespace Dx
open PySem L2 ItX
section
variable {X : Cx} {c : Cf} {G : List Ow} {tg : Expr} {f : Rho → Res D} {pos : Pos}
theorem di_enumB (i : Nat) {x : Str} {p px tpos : Pos} {elts : List Expr} {kk : Nat} (hm : X.mg "enumerate" = none) (hg : Gl X "enumerate") (he : PE X (.Name x px) (tVar i)) (k : kd G i = .b) (hK : c.K = X.K := by rfl) (hs : starEach [.Name x px] X.env = (false, eval (.Name x px) X.env) :: starEach [] X.env := by rfl) :
    PI X (.Tuple elts kk tpos) (.Call (.Name "enumerate" p) [.Name x px] [] pos) (iD c G (dIt enumX (dVar i))) :=
  pi_imp (pi_or (pi_enum hg hm (pa_cons he pa_nil hs) hs) (pi_enT hg hm (pa_cons he pa_nil hs) hs)) fun σ H R ⟨S0, H0, S, r, ok, p⟩ => by
    obtain ⟨d, hd, p⟩ := of_dVar (p.unbind)
    obtain ⟨v, h1, h2⟩ := ok.slot i d hd
    rw [k] at h2
    have p1 := p.go ok.ex
    rw [← hK]
    cases d with
    | lst ds =>
      rcases h2 with h2 | ⟨q, ho, rfl, h3, h4⟩
      · cases h2 with | @lst q xs _ h rr =>
        exact .inl ⟨_, h1, q, xs, rfl, .inl (.inl (ok.ex _ _ h)), PostG.go (show PostG c σ S H (.ok (numd 0 ds)) _ from p1) ok.ex _ ⟨_, _, by rw [numd_len, ← rr.length]; exact walk_enum (K := c.K) (a := q) (xs := xs), fun S'' H'' e1 e2 _ => (show SqL c.K H'' q xs from .inl (.inl (e2 _ _ (e1 _ _ h)))), YOk.num rr⟩⟩
      · cases h4 with | @lst xs _ rr =>
        exact .inl ⟨_, h1, q, xs, rfl, .inl (.inl (ok.fwd.h _ _ h3)), PostG.go (show PostG c σ S H (.ok (numd 0 ds)) _ from p1) ok.ex _ ⟨_, _, by rw [numd_len, ← rr.length]; exact walk_enum (K := c.K) (a := q) (xs := xs), fun S'' H'' e1 e2 e3 => (show SqL c.K H'' q xs from .inl (.inl (e3 _ _ h3))), YOk.num rr⟩⟩
    | fz ds =>
      rcases h2 with h2 | ⟨q, ho, rfl, h3, h4⟩
      · cases h2 with | @fz q xs _ h rr =>
        exact .inl ⟨_, h1, q, xs, rfl, ok.ex.l h, PostG.go (show PostG c σ S H (.ok (numd 0 ds)) _ from p1) ok.ex _ ⟨_, _, by rw [numd_len, ← rr.length]; exact walk_enum (K := c.K) (a := q) (xs := xs), fun S'' H'' e1 e2 _ => (show SqL c.K H'' q xs from e2.l (e1.l h)), YOk.num rr⟩⟩
      · cases h4
    | kt ds =>
      rcases h2 with h2 | ⟨q, ho, rfl, h3, h4⟩
      · cases h2 with | @kt q xs _ h rr =>
        exact .inr ⟨_, h1, q, xs, rfl, ok.ex.t h, PostG.go (show PostG c σ S H (.ok (numd 0 ds)) _ from p1) ok.ex _ ⟨_, _, by rw [numd_len, ← rr.length]; exact walk_enT (K := c.K), fun S'' H'' e1 e2 _ => (show SqT c.K H'' q xs from e2.t (e1.t h)), YOk.num rr⟩⟩
      · cases h4
    | tup ds =>
      rcases h2 with h2 | ⟨q, ho, rfl, h3, h4⟩
      · cases h2 with | @tup q xs _ h rr =>
        exact .inr ⟨_, h1, q, xs, rfl, .inl (.inl (ok.ex _ _ h)), PostG.go (show PostG c σ S H (.ok (numd 0 ds)) _ from p1) ok.ex _ ⟨_, _, by rw [numd_len, ← rr.length]; exact walk_enT (K := c.K), fun S'' H'' e1 e2 _ => (show SqT c.K H'' q xs from .inl (.inl (e2 _ _ (e1 _ _ h)))), YOk.num rr⟩⟩
      · cases h4
    | _ => exact p1.elim
end
section
variable {X : Cx} {c : Cf} {L G G' : List Ow} {e a b : Expr} {rest : List Expr} {pos p : Pos} {t1 : Rho → Res Bool} {t2 t3 : Rho → Res (Bool × Rho)} {σ : St} {H : Hp}
theorem set_there {α : Type} {xs : List α} {i : Nat} {x : α} (h : xs[i]? = some x) : xs.set i x = xs := by
  apply List.ext_getElem?
  intro j
  by_cases e : i = j
  · subst e
    rw [List.getElem?_set_self (List.getElem?_eq_some_iff.mp h).1, h]
  · rw [List.getElem?_set_ne e]
/-- the own object in slot i has changed -/
theorem EnvOk.back {S0 H0 S H S' H' : Hp} {r : Rho} {i : Nat} {d d' : D} {x : Addr} {o' : HO} (ok : EnvOk c S0 H0 G S H σ r) (kk : kd G i = .o) (hr : r[i]? = some (some d)) (hs : σ[i]? = some (some (.ref x))) (sx : S x = none) (hx0 : H0 x = none) (fw : Fwd S (rem H x) S' (rem H' x)) (hx' : H' x = some o') (sx' : S' x = none) (ho' : RpO c.K c.cm S' o' d') : EnvOk c S0 H0 G S' H' σ (r.set i (some d')) := by
  have e1 := (ok.take kk hr hs sx hx0).go fw
  have hH : upd (rem H' x) x o' = H' := rem_put hx'
  have exS : Ex S' H' := fun a u h => by
    have h2 := fw.sub a u h
    have ha : a ≠ x := fun z => by subst z; rw [sx'] at h; cases h
    exact h2.at (rem_ne ha).symm
  have f2 : Fwd S' (rem H' x) S' H' := by
    have e1 : Ex (rem H' x) H' := by have := Ex.new (H := rem H' x) (p := x) (o := o') rem_same; rw [hH] at this; exact this
    have tk : Tk (rem H' x) H' := by have := Tk.new (H := rem H' x) (p := x) (o := o') rem_same; rw [hH] at this; exact this
    exact ⟨Ex.refl, e1, exS, fun a o h n => (by rw [n] at h; cases h), tk⟩
  have hi : i < G.length := Nat.lt_of_not_le fun z => by
    have : kd G i = .v := by
      show G.getD i .v = .v
      rw [List.getD_eq_getElem?_getD, List.getElem?_eq_none z]; rfl
    rw [this] at kk; cases kk
  have e2 := e1.setO f2 i (by rw [List.length_set]; exact hi) rem_same sx' hx' ho'
  rw [set_kd kk, List.set_set, set_there hs] at e2
  exact e2
end
end Dx
end S_DxCZ
section S_DxDA
set_option Elab.async false
set_option linter.all false
set_option maxRecDepth 100000
set_option maxHeartbeats 2000000
namespace Dx
open PySem L2
open PyProof.Rows hiding St
open GenW
def GivesS (c : Cf) (S' : Hp) (J : It) (ds : List D) : Prop := ∃ Gd Y, Walk J ds.length Gd Y ∧ (∀ S'' H'', Ex S' S'' → Ex S'' H'' → Gd H'') ∧ YOk c S' ds Y
def iS (c : Cf) (G : List Ow) (f : Rho → Res (List D)) : TI := fun σ H R => ∃ S0 H0 S r, EnvOk c S0 H0 G S H σ r ∧ PostG c σ S H (f r) fun ds S' H' => ∀ J, GivesS c S' J ds → R J H'
section
variable {X : Cx} {c : Cf} {G : List Ow} {tg e a : Expr} {pos p : Pos} {f : Rho → Res D}
theorem givesS_list {S : Hp} {q : Addr} {xs : List V} {ds : List D} (h : SqL c.K S q xs) (rr : RpA c.K c.cm S xs ds) : GivesS c S (Itl c.K q) ds := by
  refine ⟨_, _, by rw [← rr.length]; exact walk_list (K := c.K) (a := q) (xs := xs), fun S'' H'' e1 e2 => e2.l (e1.l h), fun i S1 H1 x H2 hi e1 e2 y => ?_⟩
  obtain ⟨rfl, hx⟩ := y
  obtain ⟨d, h1, h2⟩ := rr.getV hx
  exact ⟨S1, d, Fwd.refl e2, h1, h2.mono e1⟩
theorem givesS_rng {S : Hp} {lo : Int} {n : Nat} : GivesS c S (Itr lo n) (rngL lo n) := by
  have hl : (rngL lo n).length = n := by unfold rngL; simp
  refine ⟨_, _, by rw [hl]; exact walk_range, fun _ _ _ _ => trivial, fun i S1 H1 x H2 hi e1 e2 y => ?_⟩
  obtain ⟨rfl, rfl⟩ := y
  rw [hl] at hi
  exact ⟨S1, .int (lo + (i : Int)), Fwd.refl e2, by unfold rngL; simp [hi], .int _⟩
theorem is_list (he : PE X e (tV c G f)) (hK : c.K = X.K := by rfl) : PI X tg e (iS c G (dIt itemsL f)) := pi_imp (pi_list he) fun σ H R ⟨S0, H0, S, r, ok, p⟩ => rd_seq ok p fun d v S1 H1 w1 o1 m1 p1 => by
  rw [← hK]
  cases d with
  | lst ds =>
    cases m1 with | @lst q xs _ h rr =>
    exact ⟨q, rfl, ⟨xs, .inl (.inl (o1.ex _ _ h))⟩, p1.go o1.ex _ (givesS_list (.inl (.inl h)) rr)⟩
  | fz ds =>
    cases m1 with | @fz q xs _ h rr =>
    exact ⟨q, rfl, ⟨xs, o1.ex.l h⟩, p1.go o1.ex _ (givesS_list h rr)⟩
  | _ => exact p1.elim
theorem is_rng1 {fs : Rho → Res (List D)} (hm : X.mg "range" = none) (hg : Gl X "range") (ha : PA X [a] (tAs c G fs)) (hs : starEach [a] X.env = [(false, eval a X.env)] := by rfl) : PI X tg (.Call (.Name "range" p) [a] [] pos) (iS c G (dIts rng1 fs)) :=
  pi_imp (pi_range1 hg hm ha hs) fun σ H R ⟨S0, H0, S, r, ok, p⟩ => rd_seq ok p fun ds vs S1 H1 w1 o1 m1 p1 => by
    unfold rng1 at p1
    split at p1
    · obtain ⟨hl, p1⟩ := p1.gd
      match vs, m1 with
      | _, .cons h .nil => cases h; exact ⟨_, rfl, by have := hl.1; omega, by have := hl.2; omega, p1.go o1.ex _ givesS_rng⟩
    · exact p1.elim
end
theorem piece3 {α β : Type} {X : Cx} {M : Model} {m : Sem α} {f : α → Sem β} {s : Shared} {P : α → Prop} {Q : α → β → Shared → Prop} {E : Value → Shared → Prop} (hb : AllBare s.gens) (h : wpAny M X.A m (fun a s1 => P a ∧ wpAny M X.A (f a) (Q a) E s1) E (dead (fun _ => False) s)) :
    wpAny M X.A m (fun a s1 => P a ∧ wpAny M X.A (f a) (fun b s' => ∃ s2, s' = rest (sleeps (fun _ => False) s.gens) s2 ∧ DeadAt (sleeps (fun _ => False) s.gens) s2 ∧ Q a b s2 ∧ KeptG (fun _ => False) s s' ∧ s.gens.size ≤ s'.gens.size ∧ GoneN s s')
      (fun x s' => ∃ s2, E x s2) s1) (fun x s' => ∃ s2, E x s2) s := by
  have hsz : (dead (fun _ => False) s).gens.size = s.gens.size := by
    show (s.gens.mapIdx _).size = _
    rw [Array.size_mapIdx]
  have h1 : wpAny M X.A m (fun a z => (s.gens.size ≤ z.gens.size ∧ GoneN s z) ∧ P a ∧ wpAny M X.A (f a) (fun b y => (s.gens.size ≤ y.gens.size ∧ GoneN s y) ∧ Q a b y) E z) E (dead (fun _ => False) s) := by
    have z := wpAny_nb h
    refine wpAny_gsz (n := s.gens.size) (by rw [hsz]; exact Nat.le_refl _) (wpAny_mono z (fun a y q k => ?_) fun _ _ q _ => q)
    have g1 : GoneN s y := (GoneN.same rfl).trans q.1
    refine ⟨⟨k, g1⟩, q.2.1, wpAny_gsz (n := s.gens.size) k (wpAny_mono (wpAny_nb q.2.2) (fun b y2 q2 k2 => ⟨⟨k2, g1.trans q2.1⟩, q2.2⟩) fun _ _ q _ => q)⟩
  refine wpAny_kept (fun _ => False) (fun _ _ z => z.elim) h1 (fun a s2 d n q k => ⟨q.2.1, ?_⟩) fun x s2 d n q k => ⟨s2, q⟩
  refine wpAny_mono (wpAny_swap d n q.2.2) (fun b s' ⟨s3, e3, d3, n3, q3⟩ => ?_) fun x s' ⟨s3, _, _, _, q3⟩ => ⟨s3, q3⟩
  subst e3
  exact ⟨s3, rfl, d3, q3.2, back_kept d3, by rw [rest_size]; exact q3.1.1, q3.1.2.trans (GoneN.same rfl)⟩
theorem piece2 {α β : Type} {X : Cx} {M : Model} {m : Sem α} {f : α → Sem β} {s : Shared} {Q : β → Shared → Prop} {E : Value → Shared → Prop} (hb : AllBare s.gens) (h : wpAny M X.A m (fun a s1 => wpAny M X.A (f a) Q E s1) E (dead (fun _ => False) s)) :
    wpAny M X.A m (fun a s1 => wpAny M X.A (f a) (fun b s' => ∃ s2, s' = rest (sleeps (fun _ => False) s.gens) s2 ∧ DeadAt (sleeps (fun _ => False) s.gens) s2 ∧ Q b s2 ∧ KeptG (fun _ => False) s s' ∧ s.gens.size ≤ s'.gens.size ∧ GoneN s s')
      (fun x s' => ∃ s2, E x s2) s1) (fun x s' => ∃ s2, E x s2) s := by
  have hsz : (dead (fun _ => False) s).gens.size = s.gens.size := by
    show (s.gens.mapIdx _).size = _
    rw [Array.size_mapIdx]
  have h1 : wpAny M X.A m (fun a z => (s.gens.size ≤ z.gens.size ∧ GoneN s z) ∧ wpAny M X.A (f a) (fun b y => (s.gens.size ≤ y.gens.size ∧ GoneN s y) ∧ Q b y) E z) E (dead (fun _ => False) s) := by
    have z := wpAny_nb h
    refine wpAny_gsz (n := s.gens.size) (by rw [hsz]; exact Nat.le_refl _) (wpAny_mono z (fun a y q k => ?_) fun _ _ q _ => q)
    have g1 : GoneN s y := (GoneN.same rfl).trans q.1
    refine ⟨⟨k, g1⟩, wpAny_gsz (n := s.gens.size) k (wpAny_mono (wpAny_nb q.2) (fun b y2 q2 k2 => ⟨⟨k2, g1.trans q2.1⟩, q2.2⟩) fun _ _ q _ => q)⟩
  refine wpAny_kept (fun _ => False) (fun _ _ z => z.elim) h1 (fun a s2 d n q k => ?_) fun x s2 d n q k => ⟨s2, q⟩
  refine wpAny_mono (wpAny_swap d n q.2) (fun b s' ⟨s3, e3, d3, n3, q3⟩ => ?_) fun x s' ⟨s3, _, _, _, q3⟩ => ⟨s3, q3⟩
  subst e3
  exact ⟨s3, rfl, d3, q3.2, back_kept d3, by rw [rest_size]; exact q3.1.1, q3.1.2.trans (GoneN.same rfl)⟩
section
variable {C : GCt} {L G G' : List Ow} {b : GB}
/-- the iterator's own objects, as they stand pinned -/
theorem fp_of {X : Cx} {ip : List (Addr × Obj)} {fp : List Addr} {σ : L2.St} {H : Hp} {s : Shared} {hp : Heap} (I : Inv X (ip ++ pinsAt fp hp) σ H s) (ho : ∀ b ∈ fp, ∃ o, hp.get? b = some o) (hy : ∀ b ∈ fp, (b ∈ X.ex ∨ X.s_0.heap.objs.size ≤ b) ∧ (∀ x c, X.env.cells.lookup x = some c → c ≠ b) ∧ ∀ p ∈ X.pn ++ ip, p.1 ≠ b) : ∀ b ∈ fp, FpOk X ip H b := fun b hb => by
  obtain ⟨o, e⟩ := ho b hb
  obtain ⟨_, p2, p3, p4, _⟩ := I.pin (b, o) (List.mem_append_right _ (List.mem_append_right _ (mem_pinsAt hb e)))
  exact ⟨p2, p3, p4, (hy b hb).1, (hy b hb).2.1, (hy b hb).2.2⟩
theorem gs_for {tg iter : Expr} {body : List Stmt} {pos : Pos} {its : Rho → Res (List D)} {ks : List Nat} {t : D → Rho → Res Rho} {F : Rho → List D × SR} (hsc : NoCell C.scope) (hi : ∀ b, C.Ok b → PI (C.X b) tg iter (iS C.cf G its)) (ht : ∀ b, C.Ok b → PG (C.X b) tg (gD C.cf G G' ks t)) (hb : GStms C G G' G body F)
    (hs : ∀ x, foldedSetIterable iter C.env x = pure x := by intro _; rfl) : GStm C L G G (.For tg iter body [] pos) (forGG its t F) := by
  intro Sf ip gl b s r ys o ds c fs K' J gd lv ok pos hF oo hst kon
  unfold forGG liftG at hF
  cases hits : its r with
  | err n ns vs => rw [hits] at hF; cases hF; exact oo.elim
  | bad => rw [hits] at hF; cases hF; exact oo.elim
  | ok items =>
    rw [hits] at hF
    dsimp only at hF
    obtain ⟨σ, S, H, I, e, g0, hip, nb, hfl⟩ := hst
    refine gr_for (Xe := fun x _ => ∃ z, (C.X b).xe x z) (fun x z t ⟨y, q⟩ => gx ok pos q) pos.gd ?_ hs
    rw [pos.over, ← ok.A, ← ok.env]
    refine wpAny_mono (piece2 I.bare ((hi b ok).run ip _ σ H (fun J H' => ∃ S', Fwd S H S' H' ∧ GivesS C.cf S' J items) (I.deadG _) ⟨b.S, b.H, S, r, e, by
      rw [hits]
      exact fun S' H' fw J hJ => ⟨S', fw, hJ⟩⟩)) (fun v s1 q => wpAny_mono q (fun itv s1 q => ?_) fun x _ ⟨s2, q⟩ => ⟨s2, q⟩) fun x _ ⟨s2, q⟩ => ⟨s2, q⟩
    obtain ⟨s2, e2, dd, ⟨it, fp, tn, J1, H1, rfl, I1, T, st1, f1, S1, fw, Gd, Y, wk, hG, hY⟩, kpt, hsz, nb1⟩ := q
    intro k0 l p kp hk0
    have pl : GPos C (.forLoop tg (.ref it) body [] C.env) (.ret k0 none false l c p kp :: fs) id := gpos_loop pos rfl rfl
    have I3 : Inv (C.X b) ip σ H1 s1 := by rw [e2]; exact I1.restG dd I.bare
    have st3 : tn 0 s1.heap := by rw [e2]; exact st1
    have noc : ∀ (B : GB) x c, (C.X B).env.cells.lookup x = some c → False := fun B x c h => by
      have e : (C.X B).env.cells = cellsFrom ((cutH C.n0 B.s.heap).objs.size + 1) C.scope.names [] := rfl
      rw [e, nocells _ _ hsc] at h
      cases h
    have old : ∀ q ∈ fp, C.n0 ≤ q := fun q hq => by
      rcases (f1 q hq).2.2.2.1 with z | z
      · exact absurd (show q ∈ ([] : List Addr) from z) (by simp)
      · have h1 : (cutH C.n0 b.s.heap).objs.size ≤ q := z
        rw [cut_size ok.sz] at h1
        exact h1
    have npn : ∀ q ∈ fp, ∀ y ∈ C.pn ++ ip, y.1 ≠ q := fun q hq => (f1 q hq).2.2.2.2.2
    have yg : ∀ {b' : GB}, C.Ok b' → ∀ q ∈ fp, (q ∈ (C.X b').ex ∨ (C.X b').s_0.heap.objs.size ≤ q) ∧ (∀ x c, (C.X b').env.cells.lookup x = some c → c ≠ q) ∧ ∀ y ∈ (C.X b').pn ++ ip, y.1 ≠ q := fun {b'} ok' q hq => ⟨.inr (by
      show (cutH C.n0 b'.s.heap).objs.size ≤ q
      rw [cut_size ok'.sz]
      exact old q hq), fun x c h => (noc b' x c h).elim, npn q hq⟩
    have loop : ∀ (j : Nat) (b : GB) (s : Shared) (r : Rho) (ys : List D), C.Ok b → j ≤ items.length → loopG t F (items.drop j) r = (ys, o) → (∃ σ S H, Inv (C.X b) ip σ H s ∧ EnvOk C.cf b.S b.H G S H σ r ∧ Ex S1 S ∧ Ex Sf S ∧ GlOk b gl s ∧ tn j s.heap ∧ (∀ q ∈ fp, FpOk (C.X b) ip H q) ∧ GoneN b.s s) →
        GRun (model C.P C.w) b.A (Std C (ys ++ ds) b) (.forLoop tg (.ref it) body [] C.env) ((model C.P C.w).den (.forLoop tg (.ref it) body [] C.env)) (.ret k0 none false l c p kp :: fs) s := by
      intro j
      induction hn : items.length - j generalizing j with
      | zero =>
        intro b s r ys ok hj hF ⟨σ, S, H, I, e, ex1, exf, gk, st, ff, nb⟩
        have hje : j = items.length := by omega
        subst hje
        rw [List.drop_length] at hF
        cases hF
        refine gr_forLoop (Xe := fun x _ => ∃ z, (C.X b).xe x z) (fun x z t ⟨y, q⟩ => gx ok pl q) ?_
        rw [pl.over, ← ok.A]
        refine wpAny_mono (piece I.bare (T.done (C.X b) rfl rfl rfl rfl items.length ip _ σ H (C.X b).xe (I.deadG _) ff st (wk.stops H (hG S H ex1 e.ex)))) (fun rr s4 q => ?_) fun x _ ⟨s2, _, _, _, q⟩ => ⟨s2, q⟩
        obtain ⟨s5, e5, d5, ⟨hr, I5⟩, k5, z5, n5⟩ := q
        subst hr
        refine gr_leaf (.ok .next) ?_
        rw [hk0]
        exact kon b s4 .next ok ⟨σ, S, H, by rw [e5]; exact I5.restG d5 I.bare, e, gk.kept k5 z5, hip, nb.trans n5, exf⟩
      | succ n ih =>
        intro b s r ys ok hj hF ⟨σ, S, H, I, e, ex1, exf, gk, st, ff, nb⟩
        have hjl : j < items.length := by omega
        rw [List.drop_eq_getElem_cons hjl] at hF
        unfold loopG at hF
        cases htt : t items[j] r with
        | err _ _ _ => rw [htt] at hF; cases hF; exact oo.elim
        | bad => rw [htt] at hF; cases hF; exact oo.elim
        | ok r1 =>
          rw [htt] at hF
          dsimp only at hF
          refine gr_forLoop (Xe := fun x _ => ∃ z, (C.X b).xe x z) (fun x z t ⟨y, q⟩ => gx ok pl q) ?_
          rw [pl.over, ← ok.A]
          refine wpAny_mono (piece3 I.bare (m := pyNext (.ref it)) (f := fun rr => match rr with
            | none => pure ()
            | some u => letOwnedTupleGo tg (.ref it) u) (P := fun rr => ∃ u, rr = some u) (Q := fun rr _ s2 => ∃ u x H', rr = some u ∧ Inv (C.X b) ip σ H' s2 ∧ RelV x u ∧ J1.yld j H x H' ∧ tn (j + 1) s2.heap ∧ ∀ q ∈ fp, H' q = none) (E := (C.X b).xe)
            (wpAny_mono (T.item (C.X b) rfl rfl rfl rfl j ip _ σ H (C.X b).xe (I.deadG _) ff st (wk.goes j H hjl (hG S H ex1 e.ex))) (fun rr s4 ⟨u, hr, q⟩ => by
              subst hr
              exact ⟨⟨u, rfl⟩, wpAny_mono q (fun _ s5 ⟨x, H', q1, q2, q3, q4, q5⟩ => ⟨u, x, H', rfl, q1, q2, q3, q4, q5⟩) fun _ _ z => z⟩) fun _ _ z => z)) (fun rr s4 q => ?_) fun x _ ⟨s2, q⟩ => ⟨s2, q⟩
          obtain ⟨⟨u, hr⟩, q⟩ := q
          subst hr
          refine wpAny_mono (show wpAny (model C.P C.w) (C.X b).A (letOwnedTupleGo tg (.ref it) u) _ _ s4 from q) (fun _ s4 q => ?_) fun x _ ⟨s2, q⟩ => ⟨s2, q⟩
          obtain ⟨s3, e3, d3, ⟨u', x, H4, hu, I4', rv, yl, st4', fr4⟩, kk, hs4, nb4⟩ := q
          cases hu
          have I4 : Inv (C.X b) ip σ H4 s4 := by rw [e3]; exact I4'.restG d3 I.bare
          have st4 : tn (j + 1) s4.heap := by rw [e3]; exact st4'
          obtain ⟨S4, d, f4, hd, hx⟩ := hY j S H x H4 hjl ex1 e.ex (wk.yields j H x H4 hjl (hG S H ex1 e.ex) yl)
          rw [List.getElem?_eq_getElem hjl] at hd
          cases hd
          have e4 := e.go f4
          have ff4 : ∀ q ∈ fp, FpOk (C.X b) ip H4 q := fun q hq => ⟨fr4 q hq, (ff q hq).2⟩
          have I4p := I4.pinned ff4 (T.obj _ _ st4)
          have hasg : wpAny (model C.P C.w) (C.X b).A (assign tg C.env u) (fun _ s5 => (∃ σ5, Inv (C.X b) (ip ++ pinsAt fp s4.heap) σ5 H4 s5 ∧ EnvOk C.cf b.S b.H G' S4 H4 σ5 r1) ∧ KeptG (fun _ => False) s4 s5 ∧ s4.gens.size ≤ s5.gens.size ∧ GoneN s4 s5) (fun x _ => ∃ z, (C.X b).xe x z) s4 := by
            rw [← ok.env]
            refine wpAny_mono (piece I4.bare ((ht b ok).run (ip ++ pinsAt fp s4.heap) _ σ H4 x u (fun σ5 H5 => H4 = H5 ∧ EnvOk C.cf b.S b.H G' S4 H4 σ5 r1) (I4p.deadG _) rv ⟨b.S, b.H, S4, r, _, e4, hx, ?_⟩)) (fun _ s5 q5 => ?_) fun x _ ⟨s2, _, _, _, q⟩ => ⟨s2, q⟩
            · rw [htt]
              exact fun σ5 z5 e5 => ⟨rfl, e5⟩
            · obtain ⟨s5', e5', d5, ⟨σ5, H5, I5, rfl, e5⟩, k5, h5, nb5⟩ := q5
              exact ⟨⟨σ5, by rw [e5']; exact I5.restG d5 I4.bare, e5⟩, k5, h5, nb5⟩
          refine wpAny_mono hasg (fun _ s5 q5 => ?_) fun _ _ q => q
          obtain ⟨⟨σ5, I5, e5⟩, k5, h5, nb5⟩ := q5
          intro J'
          have hip4 : ∀ q ∈ ip ++ pinsAt fp s4.heap, C.n0 ≤ q.1 := fun q hq => by
            rcases List.mem_append.mp hq with hq | hq
            · exact hip q hq
            · exact old q.1 (of_pinsAt hq).1
          have gk5 : GlOk b gl s5 := (gk.kept kk hs4).kept k5 h5
          have exf4 : Ex Sf S4 := exf.trans f4.s
          have hst : GSt C S4 b (ip ++ pinsAt fp s4.heap) gl G' r1 s5 := ⟨σ5, S4, H4, I5, e5, gk5, hip4, (nb.trans nb4).trans nb5, Ex.refl⟩
          have next : ∀ {b2 : GB} {s2 : Shared} {r2 : Rho} {ys2 : List D}, C.Ok b2 → GSt C S4 b2 (ip ++ pinsAt fp s4.heap) gl G r2 s2 → loopG t F (items.drop (j + 1)) r2 = (ys2, o) → GRun (model C.P C.w) b2.A (Std C (ys2 ++ ds) b2) (.forLoop tg (.ref it) body [] C.env) ((model C.P C.w).den (.forLoop tg (.ref it) body [] C.env)) (.ret k0 none false l c p kp :: fs) s2 := fun {b2 s2 r2 ys2} ok2 ⟨σ7, S7, H7, I7, e7, g7, _, nb7, f7⟩ h2 => by
            refine ih (j + 1) (by omega) b2 s2 r2 ys2 ok2 (by omega) h2 ⟨σ7, S7, H7, I7.unpinned, e7, (ex1.trans f4.s).trans f7, exf4.trans f7, g7, ?_, ?_, nb7⟩
            · exact T.keep _ _ _ st4 fun q hq o1 z1 => (I7.pin (q, o1) (List.mem_append_right _ (List.mem_append_right _ (mem_pinsAt hq z1)))).1
            · exact fp_of I7 (fun q hq => let ⟨o1, z1, _⟩ := T.obj _ _ st4 q hq; ⟨o1, z1⟩) (yg ok2)
          have out : ∀ {b2 : GB} {s2 : Shared} {r2 : Rho}, GSt C S4 b2 (ip ++ pinsAt fp s4.heap) gl G r2 s2 → GSt C Sf b2 ip gl G r2 s2 := fun {b2 s2 r2} ⟨σ7, S7, H7, I7, e7, g7, _, nb7, f7⟩ => ⟨σ7, S7, H7, I7.unpinned, e7, g7, hip, nb7, exf4.trans f7⟩
          cases hB : F r1 with
          | mk y1 o1 =>
            rw [hB] at hF
            cases o1 with
            | nx r2 =>
              obtain ⟨z1, z2⟩ := Prod.mk.inj hF
              rw [← z1, List.append_assoc]
              refine hb S4 (ip ++ pinsAt fp s4.heap) gl b s5 r1 y1 (.nx r2) _ _ _ _ J' id id ok pl hB trivial hst fun b2 s2 fl ok2 ho => ?_
              cases fl with
              | next => exact gr_again rfl (next ok2 ho (by rw [← z2]))
              | _ => exact ho.elim
            | ct r2 =>
              obtain ⟨z1, z2⟩ := Prod.mk.inj hF
              rw [← z1, List.append_assoc]
              refine hb S4 (ip ++ pinsAt fp s4.heap) gl b s5 r1 y1 (.ct r2) _ _ _ _ J' id id ok pl hB trivial hst fun b2 s2 fl ok2 ho => ?_
              cases fl with
              | cont => exact gr_again rfl (next ok2 ho (by rw [← z2]))
              | _ => exact ho.elim
            | bk r2 =>
              cases hF
              refine hb S4 (ip ++ pinsAt fp s4.heap) gl b s5 r1 _ (.bk r2) _ _ _ _ J' id id ok pl hB trivial hst fun b2 s2 fl ok2 ho => ?_
              cases fl with
              | brk =>
                refine gr_leaf (.ok .next) ?_
                rw [hk0]
                exact kon b2 s2 .next ok2 (out ho)
              | _ => exact ho.elim
            | rt dd =>
              cases hF
              refine hb S4 (ip ++ pinsAt fp s4.heap) gl b s5 r1 _ (.rt dd) _ _ _ _ J' id id ok pl hB trivial hst fun b2 s2 fl ok2 ho => ?_
              cases fl with
              | ret u =>
                obtain ⟨v7, σ7, S7, H7, r7, I7, f7, hv7, gs7⟩ := ho
                refine gr_leaf (.ok (.ret u)) ?_
                rw [hk0]
                exact kon b2 s2 (.ret u) ok2 ⟨v7, σ7, S7, H7, r7, I7.unpinned, f7, hv7, gs7⟩
              | _ => exact ho.elim
            | er _ _ _ _ => cases hF; exact oo.elim
            | bad => cases hF; exact oo.elim
    rw [ok.env]
    exact loop 0 b s1 r ys ok (Nat.zero_le _) (by rw [List.drop_zero]; exact hF) ⟨σ, S1, H1, I3, e.go fw, Ex.refl, hfl.trans fw.s, g0.kept kpt hsz, st3, f1, nb.trans nb1⟩
end
section
variable {X : Cx} {c : Cf} {G : List Ow} {k : Nat} {f : Addr} {fd : FuncData} {ps : List Str} {pos apos : Pos} {o e1 : Expr} {es : List Expr} {f1 : Rho → Res D} {fs : Rho → Res (List D)} {F : List D → Res (List D)}
def dMethGA (n m : Str) (F : List D → Res (List D)) (f1 : Rho → Res D) (fs : Rho → Res (List D)) : Rho → Res (List D) := fun r => (f1 r).bind fun x => (isObj n m x).bind fun _ => (fs r).bind fun ds => F (x :: ds)
theorem dg_methG {n m : Str} {C : Addr} {pl : Sem Bool} (hcn : c.cm n = some C) (cl : Cls X.K C) (hm : Meth X.K C m f) (F1 : GFnD X.prog X.w X.K X.mg X.base c.cm k f fd ps F) (hr : Room k X.A) (hb : L2.Binds X.K fd ps []) (hlen : ∀ r ds, fs r = .ok ds → ds.length + 1 = ps.length) (he : PE X o (tV c G f1)) (ha : PA X (e1 :: es) (tAs c G fs)) (hK : c.K = X.K := by rfl)
    (hst : starEach (e1 :: es) X.env = (false, eval e1 X.env) :: starEach es X.env := by rfl) (hpl : (backTo pos (starEach es X.env)).any (·.1) = false := by rfl)
    (ht : eval (.Call (.Attribute o m apos) (e1 :: es) [] pos) X.env = (do
      let ov ← eval o X.env
      standAt apos.atName
      let (f, first) ← holding [ov] (getMethod ov m pl)
      callWith pos f first (backTo pos (starEach (e1 :: es) X.env)) (backToKw pos (keywordEach [] X.env))) := by rfl) :
    GEx X c G k (.Call (.Attribute o m apos) (e1 :: es) [] pos) (dMethGA n m F f1 fs) := by
  refine ⟨fun pins s σ S0 H0 S H r items I ev hi => ?_⟩
  unfold dMethGA at hi
  cases hf : f1 r with
  | err _ _ _ => rw [hf] at hi; cases hi
  | bad => rw [hf] at hi; cases hi
  | ok x =>
    rw [hf] at hi
    cases x with
    | obj c' ns vs =>
      have hi2 : ((if c' = n ∧ m ∉ ns then (.ok () : Res Unit) else .bad).bind fun _ => (fs r).bind fun ds => F (.obj c' ns vs :: ds)) = .ok items := hi
      by_cases hc : c' = n ∧ m ∉ ns
      · rw [if_pos hc] at hi2
        have hi3 : ((fs r).bind fun ds => F (.obj c' ns vs :: ds)) = .ok items := hi2
        cases hfs : fs r with
        | err _ _ _ => rw [hfs] at hi3; cases hi3
        | bad => rw [hfs] at hi3; cases hi3
        | ok ds =>
          rw [hfs] at hi3
          have hi4 : F (.obj c' ns vs :: ds) = .ok items := hi3
          obtain ⟨rfl, hmn⟩ := hc
          have hrun := he.run pins s σ H (fun v H1 => ∃ S1, Fwd S H S1 H1 ∧ Rp c.K c.cm S1 v (.obj c' ns vs)) I ⟨S0, H0, S, r, ev, by
            rw [hf]
            exact fun S' H' fw v hv => ⟨S', fw, hv⟩⟩
          have hrun2 := wpAny_gsz (n := s.gens.size) (Nat.le_refl _) (wpAny_mono hrun (fun us z q k => (⟨k, q⟩ : s.gens.size ≤ z.gens.size ∧ _)) fun _ _ q _ => q)
          refine W.methodCall_KW (thn hrun2 fun u s1 ⟨hsz, v, H1, I1, rv, S1, f1', hv⟩ => ?_) ht
          obtain ⟨q, C', dx, fs', rfl, z1, z2, z3, z4⟩ := RpB.obj (.inl hv) f1'.sub
          rw [hcn] at z1; cases z1
          obtain rfl : u = Value.ref q := rv
          refine getmeth_ok I1 z2 cl hm (lookup_none (by rw [← z3]; exact hmn)) ?_
          have ev1 := ev.go f1'
          have hrun3 := wpAny_gsz (n := s1.gens.size) (Nat.le_refl _) (wpAny_mono (ha.run pos pins s1 σ H1 (fun vs2 H2 => ∃ S2, Fwd S1 H1 S2 H2 ∧ RpA c.K c.cm S2 vs2 ds) I1 ⟨S0, H0, S1, r, ev1, by
            rw [hfs]
            exact fun S' H' fw vs2 hv2 => ⟨S', fw, hv2⟩⟩) (fun us z q k => (⟨k, q⟩ : s1.gens.size ≤ z.gens.size ∧ _)) fun _ _ q _ => q)
          refine PySem.W.callWith_K (first := [.ref q]) (h₀ := X.base) I1.ok.mod.kin hm.kp (thn hrun3 fun us s2 ⟨hsz2, vs2, H2, I2, r2, S2, f2, hv2⟩ => ⟨I2.kIn, ?_⟩) hst hpl
          have hl : (V.ref q :: vs2).length = ps.length := by rw [List.length_cons, hv2.length]; exact hlen r ds hfs
          exact thn (run_gfnD (us := .ref q :: us) (vs := .ref q :: vs2) F1 hK hr hb I2 f2.sub (.cons rfl r2) hl (.cons (hv.mono f2.s) hv2) hi4) fun u' s3 z => ⟨S2, H2, s2, Nat.le_trans hsz hsz2, f1'.trans f2, I2, z⟩
      · rw [if_neg hc] at hi2; cases hi2
    | _ => cases hi
end
theorem gfnd_bad {P : Program} {w : World} {K : PySem.W.Frag} {mg : Str → Option Value} {base : Heap} {cm : CM} {k : Nat} {f : Addr} {fd : FuncData} {ps : List Str} : GFnD P w K mg base cm k f fd ps (fun _ => .bad) := ⟨fun _ _ _ _ _ _ _ _ _ _ _ _ _ _ _ _ _ _ _ _ _ h => by cases h⟩
end Dx
end S_DxDA
section S_DxDB
set_option Elab.async false
set_option linter.all false
set_option maxRecDepth 100000
set_option maxHeartbeats 2000000
namespace Dx
open PySem L2
open PyProof.Rows hiding St
def insU (k : Int) : List Int → List Int
  | [] => [k]
  | x :: xs => if k < x then k :: x :: xs else if k = x then x :: xs else x :: insU k xs
def sortSet (ns : List Int) : List Int := ns.foldr insU []
theorem insU_mem (k j : Int) : ∀ l : List Int, j ∈ insU k l ↔ j = k ∨ j ∈ l
  | [] => by simp [insU]
  | x :: xs => by
    unfold insU
    by_cases h : k < x
    · rw [if_pos h]; simp
    · rw [if_neg h]
      by_cases e : k = x
      · rw [if_pos e, e]; simp
      · rw [if_neg e, List.mem_cons, insU_mem k j xs, List.mem_cons]
        constructor
        · rintro (z | z | z)
          · exact .inr (.inl z)
          · exact .inl z
          · exact .inr (.inr z)
        · rintro (z | z | z)
          · exact .inr (.inl z)
          · exact .inl z
          · exact .inr (.inr z)
theorem insU_lt (k : Int) : ∀ l : List Int, l.Pairwise (· < ·) → (insU k l).Pairwise (· < ·)
  | [], _ => by simp [insU]
  | x :: xs, h => by
    obtain ⟨h1, h2⟩ := List.pairwise_cons.mp h
    unfold insU
    by_cases hk : k < x
    · rw [if_pos hk]
      exact List.pairwise_cons.mpr ⟨fun y hy => by
        rcases List.mem_cons.mp hy with e | e
        · rw [e]; exact hk
        · have := h1 y e; omega, h⟩
    · rw [if_neg hk]
      by_cases e : k = x
      · rw [if_pos e]; exact h
      · rw [if_neg e]
        refine List.pairwise_cons.mpr ⟨fun y hy => ?_, insU_lt k xs h2⟩
        rcases (insU_mem k y xs).mp hy with z | z
        · omega
        · exact h1 y z
theorem sortSet_mem (j : Int) : ∀ ns : List Int, j ∈ sortSet ns ↔ j ∈ ns
  | [] => Iff.rfl
  | n :: ns => by
    show j ∈ insU n (sortSet ns) ↔ _
    rw [insU_mem, sortSet_mem j ns, List.mem_cons]
theorem sortSet_lt : ∀ ns : List Int, (sortSet ns).Pairwise (· < ·)
  | [] => List.Pairwise.nil
  | n :: ns => insU_lt n _ (sortSet_lt ns)
theorem rising_eq : ∀ {a b : List Int}, a.Pairwise (· < ·) → b.Pairwise (· < ·) → (∀ k, k ∈ a ↔ k ∈ b) → a = b
  | [], [], _, _, _ => rfl
  | [], y :: _, _, _, h => absurd ((h y).mpr List.mem_cons_self) (by simp)
  | x :: _, [], _, _, h => absurd ((h x).mp List.mem_cons_self) (by simp)
  | x :: xs, y :: ys, ha, hb, h => by
    obtain ⟨a1, a2⟩ := List.pairwise_cons.mp ha
    obtain ⟨b1, b2⟩ := List.pairwise_cons.mp hb
    have hxy : x = y := by
      have h1 := (h x).mp List.mem_cons_self
      have h2 := (h y).mpr List.mem_cons_self
      rcases List.mem_cons.mp h1 with e | e
      · exact e
      · rcases List.mem_cons.mp h2 with e2 | e2
        · exact e2.symm
        · have := b1 x e; have := a1 y e2; omega
    subst hxy
    congr 1
    refine rising_eq a2 b2 fun k => ⟨fun hk => ?_, fun hk => ?_⟩
    · rcases List.mem_cons.mp ((h k).mp (List.mem_cons_of_mem _ hk)) with e | e
      · have := a1 k hk; omega
      · exact e
    · rcases List.mem_cons.mp ((h k).mpr (List.mem_cons_of_mem _ hk)) with e | e
      · have := b1 k hk; omega
      · exact e
theorem vals_int : ∀ {us : List Value} {ns : List Int}, IntsAre us ns → Vals (ns.map V.int) us
  | _, _, .nil => .nil
  | _, _, .cons n t h => .cons ⟨t, rfl⟩ (vals_int h)
section
variable {X : Cx}
def rSetT (K : PySem.W.Frag) (w : World) : List V → Hp → VK → Prop := fun xs H Q => ∃ (p : Addr) (ns : List Int), xs = [.ref p] ∧ SqT K H p (ns.map V.int) ∧ ns.length ≤ 1000 ∧ ∀ a n, H a = none → n ≤ ns.length → Q (.ref a) (upd H a (SetO w a (fun j => decide (j ∈ ns)) n))
theorem cr_setT (hc : X.calm = true) : CallR X (.type "set") (rSetT X.K X.w) := by
  intro pins s σ H xs us Q I r h
  obtain ⟨p0, ns, rfl, hq, hl, q⟩ := h
  cases r with
  | cons r rr =>
    cases rr
    cases r
    obtain ⟨its, rv, pt, _⟩ := I.tuple hq
    refine call_set_tupI ns (I.ok.hd hc) (items := its.toArray) pt (ints_of_vals rv) (by unfold scanBound; omega) fun h' tk n R hn k => ?_
    exact ⟨.ref _, upd H s.heap.objs.size (SetO X.w s.heap.objs.size (fun j => decide (j ∈ ns)) n), I.laid (t' := tk) k (Nat.le_refl _) (setO_new R), rfl, q _ n (I.hok.fresh (Nat.le_refl _)) hn⟩
def rSortS (w : World) : List V → Hp → VK → Prop := fun xs H Q => ∃ (a : Addr) (S : Int → Bool) (n : Nat), xs = [.ref a] ∧ H a = some (SetO w a S n) ∧ n < 64 ∧ ∀ p (ns : List Int), H p = none → ns.Pairwise (· < ·) → (∀ k, k ∈ ns ↔ S k = true) → Q (.ref p) (upd H p (.lst (ns.map V.int)))
theorem cr_sortS (hc : X.calm = true) : CallR X (.builtin "sorted") (rSortS X.w) := by
  intro pins s σ H xs us Q I r h
  obtain ⟨a, S, n, rfl, ha, hn, q⟩ := h
  cases r with
  | cons r rr =>
    cases rr
    cases r
    refine sorted_set (setO_get I ha) (I.ok.hd hc) hn fun s' p out c ns k g o hp hget hi hlt hm hl => ?_
    have new : ObjOk X.prog X.w (upd H p (.lst (ns.map V.int))) s'.heap p (.lst (ns.map V.int)) := by
      refine ⟨by rw [List.length_map, hl]; exact Nat.le_trans (Nat.le_of_lt hn) (Nat.le_of_ble_eq_true rfl), out.toList, c, vals_int hi, ?_⟩
      rw [Array.toArray_toList]
      exact hget
    exact ⟨.ref p, _, I.call' (ch := []) o (Un.laid k hp (I.hok.fresh hp)) (I.hok.laid k hp new) (by rw [g]; exact I.bare) (fun _ z => nomatch z), rfl, q p ns (I.hok.fresh hp) hlt hm⟩
end
def intsQ : List D → Option (List Int)
  | [] => some []
  | .int k :: ds => (intsQ ds).map (k :: ·)
  | _ :: _ => none
theorem intsQ_map : ∀ ns : List Int, intsQ (ns.map D.int) = some ns
  | [] => rfl
  | n :: ns => by
    show (intsQ (ns.map D.int)).map (n :: ·) = _
    rw [intsQ_map ns]; rfl
def sortSetD : D → Res D
  | .tup ds => (match intsQ ds with
    | some ns => if ns.length < 64 then .ok (.lst ((sortSet ns).map D.int)) else .bad
    | none => .bad)
  | _ => .bad
section
variable {X : Cx} {c : Cf} {G : List Ow} {S : Hp} {f : Rho → Res D} {e : Expr} {p p2 pos pos2 : Pos}
theorem of_intsQ : ∀ {ds : List D} {xs : List V} {ns : List Int}, intsQ ds = some ns → RpA c.K c.cm S xs ds → xs = ns.map V.int
  | [], _, _, h, .nil => by cases h; rfl
  | d :: ds, _, ns, h, .cons (v := v) (vs := vs) r rr => by
    cases d with
    | int k =>
      have h : (intsQ ds).map (k :: ·) = some ns := h
      cases q : intsQ ds with
      | none => rw [q] at h; cases h
      | some ms =>
        rw [q] at h
        cases h
        cases r
        rw [of_intsQ q rr]
        rfl
    | _ => cases h
theorem ints_rq : ∀ ns : List Int, RpA c.K c.cm S (ns.map V.int) (ns.map D.int)
  | [] => .nil
  | n :: ns => .cons (.int n) (ints_rq ns)
theorem de_sortSet (hc : X.calm = true) (hg : Gl X "sorted") (hm : X.mg "sorted" = none) (hg2 : Gl X "set") (hm2 : X.mg "set" = none) (he : PE X e (tV c G f)) (hK : c.K = X.K := by rfl) (hv : bootBuiltins "sorted" = some (.builtin "sorted") := by decide +kernel) (hv2 : bootBuiltins "set" = some (.type "set") := by decide +kernel)
    (hs : starEach [e] X.env = [(false, eval e X.env)] := by rfl) (hs2 : starEach [.Call (.Name "set" p2) [e] [] pos2] X.env = [(false, eval (.Call (.Name "set" p2) [e] [] pos2) X.env)] := by rfl)
    (he2 : starEach [e] X.env = (false, eval e X.env) :: starEach [] X.env := by rfl) (he3 : starEach [.Call (.Name "set" p2) [e] [] pos2] X.env = (false, eval (.Call (.Name "set" p2) [e] [] pos2) X.env) :: starEach [] X.env := by rfl) :
    PE X (.Call (.Name "sorted" p) [.Call (.Name "set" p2) [e] [] pos2] [] pos) (tO c G (dUn sortSetD f)) :=
  pe_imp (pe_callB (cr_sortS hc) hg hm hv (pa_cons (pe_callTy (cr_setT hc) hg2 hm2 hv2 (pa_cons he pa_nil hs) (he := he2)) pa_nil hs2) (he := he3)) fun σ H Q ⟨S0, H0, S, r, ok, pp⟩ => rd_seq ok pp fun d v S1 H1 w1 o1 m1 p1 => by
    unfold sortSetD at p1
    cases d with
    | tup ds =>
      dsimp only at p1
      cases m1 with | @tup q xs _ h rr =>
      cases hi : intsQ ds with
      | none => rw [hi] at p1; exact p1.elim
      | some ns =>
        rw [hi] at p1
        dsimp only at p1
        by_cases hl : ns.length < 64
        · rw [if_pos hl] at p1
          have hx := of_intsQ hi rr
          subst hx
          refine ⟨q, ns, rfl, by rw [← hK]; exact .inl (.inl (o1.ex _ _ h)), by omega, fun a n ha hn => ?_⟩
          refine ⟨a, _, n, rfl, upd_same, by omega, fun l ms hl2 hlt hmem => ?_⟩
          have e1 : ms = sortSet ns := rising_eq hlt (sortSet_lt ns) fun k => by rw [hmem k, decide_eq_true_eq, sortSet_mem]
          subst e1
          have fa := Fwd.heap (o := SetO X.w a (fun j => decide (j ∈ ns)) n) o1.ex ha
          have fl := Fwd.heap (o := HO.lst ((sortSet ns).map V.int)) fa.sub hl2
          exact (p1.anti w1.h) _ _ (fa.trans fl) _ ⟨l, _, rfl, Ex.nn (Ex.new ha) hl2, fa.sub.nn hl2, upd_same, .lst (ints_rq _)⟩
        · rw [if_neg hl] at p1; exact p1.elim
    | _ => exact p1.elim
end
end Dx
end S_DxDB
section S_P_data
set_option Elab.async false
set_option linter.all false
set_option maxRecDepth 100000
namespace Lk
open PySem L2 Dx
noncomputable section
def Fb_pieces_in : Rho → SR := (retF (dLc2 (dIt itemsX (dVar 0)) (tgN 1) dYes (dIt itemsT (dOp ixD (dVar 1) (dC (.int 4)))) (tgN 2) dYes (dVar 2) [1, 2] [2]))
def F_pieces_in : List D → Res D := runF 3 false Fb_pieces_in
def Fb_figures_in : Rho → SR := (retF (dLc2 (dIt itemsL (dCall F_pieces_in (dCons (dVar 0) dNil))) (tgN 1) dYes (dIt itemsT (dOp ixD (dVar 1) (dC (.int 3)))) (tgN 2) dYes (dVar 2) [1, 2] [2]))
def F_figures_in : List D → Res D := runF 3 false Fb_figures_in
def Lp_spans_in_1 : Rho → SR := (seqF (setF 4 (dCall (g1 lenD) (dCons (dVar 1) dNil))) (seqF (setF 5 (dOp addD (dVar 4) (dCall (g1 lenD) (dCons (dOp ixD (dVar 3) (dC (.int 4))) dNil)))) (extF 1 (dOp mulX (dLst (dCons (dTup (dCons (dVar 2) (dCons (dVar 4) (dCons (dVar 5) dNil)))) dNil)) (dCall (g1 lenD) (dCons (dOp ixD (dVar 3) (dC (.int 4))) dNil))))))
def Fb_spans_in : Rho → SR := (seqF (setF 1 (dLst dNil)) (seqF (forF (dIt enumX (dVar 0)) (tgT 2 (tgCons (tgN 2) (tgCons (tgN 3) tgNil))) Lp_spans_in_1) (retF (dVar 1))))
def F_spans_in : List D → Res D := runF 6 false Fb_spans_in
def Fb_Galley_init : Rho → SR := (seqF (parF 2 3 (dCall F_pieces_in (dCons (dVar 1) dNil)) (dCall F_figures_in (dCons (dVar 1) dNil))) (seqF (ifF (dT (dOp gtD (dCall (g1 lenD) (dCons (dVar 2) dNil)) (dC (.int 40)))) (raiF "TooLarge" ["many"] false (dCons (dCall (g1 lenD) (dCons (dVar 2) dNil)) dNil)) .nx) (seqF (ifF (dT (dOp gtD (dCall (g1 lenD) (dCons (dVar 3) dNil)) (dC (.int 4)))) (raiF "TooLarge" ["many"] false (dCons (dCall (g1 lenD) (dCons (dVar 3) dNil)) dNil)) .nx) (seqF (fstF 0 "Galley" "blocks" (dCall (g1 listD) (dCons (dVar 1) dNil))) (seqF (fstF 0 "Galley" "spans" (dCall F_spans_in (dCons (dVar 1) dNil))) (seqF (fstF 0 "Galley" "all_pieces" (dVar 2)) (fstF 0 "Galley" "all_figures" (dVar 3))))))))
def F_Galley_init : List D → Res D := runI 4 "Galley" Fb_Galley_init
def Fb_Galley_len : Rho → SR := (retF (dCall (g1 lenD) (dCons (dUn (fldD "Galley" "all_pieces") (dVar 0)) dNil)))
def F_Galley_len : List D → Res D := runF 1 false Fb_Galley_len
def Fb_long_galley : Rho → SR := (seqF (setF 1 (fun _ => F_Galley_init [.kt []])) (seqF (fstF 1 "Galley" "blocks" (dCall (g1 listD) (dCons (dVar 0) dNil))) (seqF (fstF 1 "Galley" "spans" (dCall F_spans_in (dCons (dVar 0) dNil))) (seqF (fstF 1 "Galley" "all_pieces" (dCall F_pieces_in (dCons (dVar 0) dNil))) (seqF (fstF 1 "Galley" "all_figures" (dCall F_figures_in (dCons (dVar 0) dNil))) (retF (dVar 1)))))))
def F_long_galley : List D → Res D := runF 2 true Fb_long_galley
def Gp_rows_below_1 : Rho → List D × SR := (seqG (yieldG [.v, .v, .v, .v] (dOp addD (dTup (dCons (dVar 2) dNil)) (dVar 3))) nilG)
def Gp_rows_below_2 (Fself : List D → Res (List D)) : Rho → List D × SR := (seqG (yieldG [.v, .v, .v, .v] (dTup (dCons (dVar 2) dNil))) (seqG (ifG (dT (dOp gtD (dVar 1) (dC (.int 1)))) (seqG (forGG (dGen Fself (dCons (dVar 0) (dCons (dOp subD (dVar 1) (dC (.int 1))) dNil))) (tgN 3) Gp_rows_below_1) nilG) nilG) nilG))
def Fb_rows_below (Fself : List D → Res (List D)) : Rho → List D × SR := (seqG (forGG (dIts rng1 (dCons (dVar 0) dNil)) (tgN 2) (Gp_rows_below_2 Fself)) nilG)
def F_rows_below : Nat → List D → Res (List D)
  | 0 => fun _ => .bad
  | n + 1 => runGF 4 (Fb_rows_below (F_rows_below n))
def Lp_block_of_case_1 : Rho → SR := (seqF (ifF (dT (dOp ltD (dVar 8) (dOp subD (dCall (g1 lenD) (dCons (dVar 7) dNil)) (dC (.int 1))))) (setF 9 (dTup (dCons (dC (.str (Sg [106, 111, 105, 110, 116]))) (dCons (dVar 3) dNil)))) (ifF (dT (dOp ltD (dVar 6) (dOp subD (dCall (g1 lenD) (dCons (dVar 1) dNil)) (dC (.int 1))))) (setF 9 (dTup (dCons (dC (.str (Sg [98, 108, 97, 110, 107]))) (dCons (dVar 2) dNil)))) (setF 9 (dTup (dCons (dC (.str (Sg [101, 110, 100]))) dNil))))) (appF 5 (dTup (dCons (dOp ixD (dVar 7) (dVar 8)) (dCons (dVar 9) (dCons (dTup dNil) (dCons (dTup dNil) dNil)))))))
def Lp_block_of_case_2 : Rho → SR := (seqF (setF 7 (dOp ixD (dVar 4) (dOp ixD (dVar 1) (dVar 6)))) (forF (dIts rng1 (dCons (dCall (g1 lenD) (dCons (dVar 7) dNil)) dNil)) (tgN 8) Lp_block_of_case_1))
def Fb_block_of_case : Rho → SR := (seqF (parF3 2 3 4 (dOp ixD (dVar 0) (dC (.int 4))) (dOp ixD (dVar 0) (dC (.int 5))) (dOp ixD (dVar 0) (dC (.int 6)))) (seqF (setF 5 (dLst dNil)) (seqF (forF (dIts rng1 (dCons (dCall (g1 lenD) (dCons (dVar 1) dNil)) dNil)) (tgN 6) Lp_block_of_case_2) (retF (dTup (dCons (dOp ixD (dVar 0) (dC (.int 0))) (dCons (dOp ixD (dVar 0) (dC (.int 1))) (dCons (dOp ixD (dVar 0) (dC (.int 2))) (dCons (dOp ixD (dVar 0) (dC (.int 3))) (dCons (dCall (g1 tupleD) (dCons (dVar 5) dNil)) dNil))))))))))
def F_block_of_case : List D → Res D := runF 10 false Fb_block_of_case
def Fb_Family_init : Rho → SR := (seqF (fstF 0 "Family" "cases" (dCall (g1 tupleD) (dCons (dVar 1) dNil))) (seqF (fstF 0 "Family" "firsts" (dCall (g1 tupleD) (dCons (dVar 2) dNil))) (fstF 0 "Family" "follows" (dCall (g1 tupleD) (dCons (dLc (dIt itemsT (dVar 3)) (tgN 4) dYes (dCall (g1 tupleD) (dCons (dVar 4) dNil)) [4]) dNil)))))
def F_Family_init : List D → Res D := runI 5 "Family" Fb_Family_init
def Fb_Family_galley_of : Rho → SR := (retF (dCall F_long_galley (dCons (dLc (dIt itemsT (dVar 1)) (tgT 2 (tgCons (tgN 2) (tgCons (tgN 3) tgNil))) dYes (dCall F_block_of_case (dCons (dOp ixD (dUn (fldD "Family" "cases") (dVar 0)) (dVar 2)) (dCons (dVar 3) dNil))) [2, 3]) dNil)))
def F_Family_galley_of : List D → Res D := runF 4 false Fb_Family_galley_of
def Gp_Family_tellings_from_1 : Rho → List D × SR := (seqG (yieldG [.v, .v, .v, .v, .v, .v] (dOp addD (dTup (dCons (dTup (dCons (dVar 3) (dCons (dVar 4) dNil))) dNil)) (dVar 5))) nilG)
def Gp_Family_tellings_from_2 (Fself : List D → Res (List D)) : Rho → List D × SR := (seqG (ifG (dT (dOp eqD (dCall (g1 lenD) (dCons (dVar 4) dNil)) (dVar 2))) (seqG (yieldG [.v, .v, .v, .v, .v, .v] (dTup (dCons (dTup (dCons (dVar 3) (dCons (dVar 4) dNil))) dNil))) nilG) (seqG (forGG (dMethGA "Family" "tellings_from" Fself (dVar 0) (dCons (dOp ixD (dUn (fldD "Family" "follows") (dVar 0)) (dVar 3)) (dCons (dOp subD (dVar 2) (dCall (g1 lenD) (dCons (dVar 4) dNil))) dNil))) (tgN 5) Gp_Family_tellings_from_1) nilG)) nilG)
def Gp_Family_tellings_from_3 (Fself : List D → Res (List D)) : Rho → List D × SR := (seqG (forGG (dGen (F_rows_below 8) (dCons (dCall (g1 lenD) (dCons (dOp ixD (dOp ixD (dUn (fldD "Family" "cases") (dVar 0)) (dVar 3)) (dC (.int 6))) dNil)) (dCons (dVar 2) dNil))) (tgN 4) (Gp_Family_tellings_from_2 Fself)) nilG)
def Fb_Family_tellings_from (Fself : List D → Res (List D)) : Rho → List D × SR := (seqG (forGG (dIt itemsL (dUn sortSetD (dVar 1))) (tgN 3) (Gp_Family_tellings_from_3 Fself)) nilG)
def F_Family_tellings_from : Nat → List D → Res (List D)
  | 0 => fun _ => .bad
  | n + 1 => runGF 6 (Fb_Family_tellings_from (F_Family_tellings_from n))
def Gp_Family_every_telling_1 : Rho → List D × SR := (seqG (yieldG [.v, .v, .v] (dVar 2)) nilG)
def Fb_Family_every_telling : Rho → List D × SR := (seqG (forGG (dMethGA "Family" "tellings_from" (F_Family_tellings_from 8) (dVar 0) (dCons (dUn (fldD "Family" "firsts") (dVar 0)) (dCons (dVar 1) dNil))) (tgN 2) Gp_Family_every_telling_1) nilG)
def F_Family_every_telling : List D → Res (List D) := runGF 3 Fb_Family_every_telling
def Fb_l_cell : Rho → SR := (seqF (ifF (dT (dOp ltD (dVar 1) (dCall (g1 lenD) (dCons (dVar 0) dNil)))) (retF (dCall (g1 intD) (dCons (dOp ixD (dVar 0) (dVar 1)) dNil))) .nx) (retF (dC (.int 0))))
def F_l_cell : List D → Res D := runF 2 false Fb_l_cell
def Lp_l_row_1 : Rho → SR := (seqF (appF 2 (dOp modD (dCall (g1 intD) (dCons (dVar 3) dNil)) (dVar 4))) (setF 3 (dOp fdivD (dVar 3) (dVar 4))))
def Lp_l_row_2 : Rho → SR := (seqF (setF 6 (dOp modD (dCall (g1 intD) (dCons (dOp addD (dOp addD (dOp mulX (dVar 0) (dC (.int 48271))) (dOp mulX (dVar 5) (dC (.int 69621)))) (dC (.int 11))) dNil)) (dC (.int 2147483647)))) (seqF (setF 6 (dOp modD (dCall (g1 intD) (dCons (dOp addD (dOp addD (dOp mulX (dVar 6) (dOp addD (dC (.int 16807)) (dOp mulX (dC (.int 2)) (dVar 5)))) (dOp mulX (dOp mulX (dVar 5) (dVar 5)) (dC (.int 40692)))) (dC (.int 7))) dNil)) (dC (.int 2147483399)))) (appF 2 (dOp modD (dCall (g1 intD) (dCons (dOp fdivD (dVar 6) (dC (.int 31))) dNil)) (dOp ixD (dVar 1) (dVar 5))))))
def Fb_l_row : Rho → SR := (seqF (setF 2 (dLst dNil)) (seqF (ifF (dT (dOp geD (dVar 0) (dC (.int 1000000000000000000)))) (seqF (setF 3 (dOp subD (dVar 0) (dC (.int 1000000000000000000)))) (seqF (forF (dIt itemsL (dVar 1)) (tgN 4) Lp_l_row_1) (retF (dVar 2)))) .nx) (seqF (forF (dIts rng1 (dCons (dCall (g1 lenD) (dCons (dVar 1) dNil)) dNil)) (tgN 5) Lp_l_row_2) (retF (dVar 2)))))
def F_l_row : List D → Res D := runF 7 false Fb_l_row
def Fb_l_number : Rho → SR := (retF (dAndV (dUn (isiD "int") (dVar 0)) (dNotV (dUn (isiD "bool") (dVar 0)))))
def F_l_number : List D → Res D := runF 1 false Fb_l_number
def Lp_l_same_1 (Fself : List D → Res D) : Rho → SR := (ifF (dNot (dT (dCall Fself (dCons (dOp ixD (dVar 0) (dVar 2)) (dCons (dOp ixD (dVar 1) (dVar 2)) dNil))))) (retF (dC (.bl false))) .nx)
def Fb_l_same (Fself : List D → Res D) : Rho → SR := (seqF (ifF (dT (dOp (isD false) (dVar 1) (dC .non))) (retF (dOp (isD false) (dVar 0) (dC .non))) .nx) (seqF (ifF (dT (dUn (isiD "bool") (dVar 1))) (retF (dAndV (dUn (isiD "bool") (dVar 0)) (dOp eqD (dVar 0) (dVar 1)))) .nx) (seqF (ifF (dT (dUn (isiD "int") (dVar 1))) (retF (dAndV (dUn (isiD "int") (dVar 0)) (dAndV (dNotV (dUn (isiD "bool") (dVar 0))) (dOp eqD (dVar 0) (dVar 1))))) .nx) (seqF (ifF (dT (dUn (isiD "str") (dVar 1))) (retF (dAndV (dUn (isiD "str") (dVar 0)) (dOp eqD (dVar 0) (dVar 1)))) .nx) (seqF (ifF (dAnd (dT (dUn (isiD "tuple") (dVar 1))) (dNot (dT (dUn (isiD "tuple") (dVar 0))))) (retF (dC (.bl false))) .nx) (seqF (ifF (dAnd (dT (dUn (isiD "list") (dVar 1))) (dNot (dT (dUn (isiD "list") (dVar 0))))) (retF (dC (.bl false))) .nx) (seqF (ifF (dOr (dT (dUn (isiD "tuple") (dVar 1))) (dT (dUn (isiD "list") (dVar 1)))) (seqF (ifF (dT (dOp neD (dCall (g1 lenD) (dCons (dVar 0) dNil)) (dCall (g1 lenD) (dCons (dVar 1) dNil)))) (retF (dC (.bl false))) .nx) (seqF (forF (dIts rng1 (dCons (dCall (g1 lenD) (dCons (dVar 1) dNil)) dNil)) (tgN 2) (Lp_l_same_1 Fself)) (retF (dC (.bl true))))) .nx) (retF (dC (.bl false))))))))))
def F_l_same : Nat → List D → Res D
  | 0 => fun _ => .bad
  | n + 1 => runF 3 false (Fb_l_same (F_l_same n))
def Lp_l_case_1 : Rho → SR := (setF 1 (dOp addD (dVar 1) (dLst (dCons (dC (.int 3)) (dCons (dC (.int 9)) (dCons (dC (.int 9)) (dCons (dC (.int 9)) dNil)))))))
def Lp_l_case_2 : Rho → SR := (seqF (setF 5 (dSl slD (dVar 3) (dPart (dOp addD (dOp mulX (dC (.int 4)) (dVar 2)) (dC (.int 7)))) (dPart (dOp addD (dOp mulX (dC (.int 4)) (dVar 2)) (dC (.int 11)))))) (appF 4 (dCall (g1 tupleD) (dCons (dLc (dIt itemsL (dSl slD (dVar 5) (dPart (dC (.int 1))) (dPart (dOp addD (dOp ixD (dVar 5) (dC (.int 0))) (dC (.int 2)))))) (tgN 6) dYes (dOp addD (dVar 6) (dC (.int 1))) [6]) dNil))))
def Fb_l_case : Rho → SR := (seqF (setF 1 (dLst (dCons (dC (.int 9)) (dCons (dC (.int 10)) (dCons (dC (.int 10)) (dCons (dC (.int 2)) (dCons (dC (.int 10)) (dCons (dC (.int 10)) (dCons (dC (.int 3)) dNil))))))))) (seqF (forF (dIts rng1 (dCons (dC (.int 3)) dNil)) (tgN 2) Lp_l_case_1) (seqF (setF 3 (dCall F_l_row (dCons (dVar 0) (dCons (dVar 1) dNil)))) (seqF (setF 4 (dLst dNil)) (seqF (forF (dIts rng1 (dCons (dOp addD (dOp ixD (dVar 3) (dC (.int 6))) (dC (.int 1))) dNil)) (tgN 2) Lp_l_case_2) (retF (dTup (dCons (dOp addD (dOp ixD (dVar 3) (dC (.int 0))) (dC (.int 1))) (dCons (dOp ixD (dVar 3) (dC (.int 1))) (dCons (dOp ixD (dVar 3) (dC (.int 2))) (dCons (dOp eqD (dOp ixD (dVar 3) (dC (.int 3))) (dC (.int 1))) (dCons (dOp ixD (dVar 3) (dC (.int 4))) (dCons (dOp ixD (dVar 3) (dC (.int 5))) (dCons (dCall (g1 tupleD) (dCons (dVar 4) dNil)) dNil))))))))))))))
def F_l_case : List D → Res D := runF 7 false Fb_l_case
def Lp_l_some_1 : Rho → SR := (ifF (dT (dOp eqD (dOp modD (dOp fdivD (dCall (g1 intD) (dCons (dVar 0) dNil)) (dOp ixD (dLst (dCons (dC (.int 1)) (dCons (dC (.int 2)) (dCons (dC (.int 4)) dNil)))) (dVar 4))) (dC (.int 2))) (dC (.int 1)))) (appF 3 (dVar 4)) .nx)
def Fb_l_some : Rho → SR := (seqF (setF 3 (dLst dNil)) (seqF (forF (dIts rng1 (dCons (dVar 1) dNil)) (tgN 4) Lp_l_some_1) (seqF (ifF (dT (dOp eqD (dVar 2) (dC (.int 1)))) (setF 3 (dUn revL (dVar 3))) .nx) (retF (dCall (g1 tupleD) (dCons (dVar 3) dNil))))))
def F_l_some : List D → Res D := runF 5 false Fb_l_some
def Lp_l_telling_1 : Rho → SR := (setF 8 (dOp addD (dVar 8) (dLc (dIts rng1 (dCons (dCall (g1 lenD) (dCons (dOp ixD (dOp ixD (dVar 0) (dVar 11)) (dC (.int 6))) dNil)) dNil)) (tgN 9) dYes (dTup (dCons (dVar 11) (dCons (dVar 9) dNil))) [9])))
def Lp_l_telling_2 : Rho → SR := (seqF (asgF (tgT 2 (tgCons (tgN 4) (tgCons (tgN 7) tgNil))) (dOp ixD (dVar 5) (dUn negD (dC (.int 1))))) (seqF (setF 8 (dLc (dIts rng1 (dCons (dCall (g1 lenD) (dCons (dOp ixD (dOp ixD (dVar 0) (dVar 4)) (dC (.int 6))) dNil)) dNil)) (tgN 9) dYes (dTup (dCons (dVar 4) (dCons (dVar 9) dNil))) [9])) (seqF (setF 10 (dCall (g1 lenD) (dCons (dVar 8) dNil))) (seqF (forF (dIt itemsT (dOp ixD (dVar 2) (dVar 4))) (tgN 11) Lp_l_telling_1) (seqF (setF 12 (dOp modD (dCall (g1 intD) (dCons (dVar 6) dNil)) (dCall (g1 lenD) (dCons (dVar 8) dNil)))) (ifF (dT (dOp ltD (dVar 12) (dVar 10))) (stoF 5 (dUn negD (dC (.int 1))) (dTup (dCons (dVar 4) (dCons (dOp addD (dVar 7) (dTup (dCons (dOp ixD (dOp ixD (dVar 8) (dVar 12)) (dC (.int 1))) dNil))) dNil)))) (appF 5 (dTup (dCons (dOp ixD (dOp ixD (dVar 8) (dVar 12)) (dC (.int 0))) (dCons (dTup (dCons (dOp ixD (dOp ixD (dVar 8) (dVar 12)) (dC (.int 1))) dNil)) dNil))))))))))
def Fb_l_telling : Rho → SR := (seqF (setF 4 (dOp ixD (dVar 1) (dOp modD (dCall (g1 intD) (dCons (dOp ixD (dVar 3) (dC (.int 0))) dNil)) (dCall (g1 lenD) (dCons (dVar 1) dNil))))) (seqF (setF 5 (dLst (dCons (dTup (dCons (dVar 4) (dCons (dTup (dCons (dOp modD (dCall (g1 intD) (dCons (dOp ixD (dVar 3) (dC (.int 1))) dNil)) (dCall (g1 lenD) (dCons (dOp ixD (dOp ixD (dVar 0) (dVar 4)) (dC (.int 6))) dNil))) dNil)) dNil))) dNil))) (seqF (forF (dIt itemsL (dSl slD (dVar 3) (dPart (dC (.int 2))) dNoP)) (tgN 6) Lp_l_telling_2) (retF (dCall (g1 tupleD) (dCons (dVar 5) dNil))))))
def F_l_telling : List D → Res D := runF 13 false Fb_l_telling
def Lp_l_blocks_1 : Rho → SR := (seqF (setF 10 (dTup (dCons (dC (.str (Sg [106, 111, 105, 110, 116]))) (dCons (dOp ixD (dVar 5) (dC (.int 5))) dNil)))) (seqF (ifF (dT (dOp eqD (dVar 9) (dOp subD (dCall (g1 lenD) (dCons (dVar 8) dNil)) (dC (.int 1))))) (setF 10 (dTup (dCons (dC (.str (Sg [98, 108, 97, 110, 107]))) (dCons (dOp ixD (dVar 5) (dC (.int 4))) dNil)))) .nx) (seqF (ifF (dAnd (dT (dOp eqD (dVar 9) (dOp subD (dCall (g1 lenD) (dCons (dVar 8) dNil)) (dC (.int 1))))) (dT (dOp eqD (dVar 7) (dOp subD (dCall (g1 lenD) (dCons (dVar 4) dNil)) (dC (.int 1)))))) (setF 10 (dTup (dCons (dC (.str (Sg [101, 110, 100]))) dNil))) .nx) (appF 6 (dTup (dCons (dOp ixD (dVar 8) (dVar 9)) (dCons (dVar 10) (dCons (dTup dNil) (dCons (dTup dNil) dNil)))))))))
def Lp_l_blocks_2 : Rho → SR := (seqF (setF 8 (dOp ixD (dOp ixD (dVar 5) (dC (.int 6))) (dOp ixD (dVar 4) (dVar 7)))) (forF (dIts rng1 (dCons (dCall (g1 lenD) (dCons (dVar 8) dNil)) dNil)) (tgN 9) Lp_l_blocks_1))
def Lp_l_blocks_3 : Rho → SR := (seqF (setF 5 (dOp ixD (dVar 0) (dVar 3))) (seqF (setF 6 (dLst dNil)) (seqF (forF (dIts rng1 (dCons (dCall (g1 lenD) (dCons (dVar 4) dNil)) dNil)) (tgN 7) Lp_l_blocks_2) (appF 2 (dTup (dCons (dOp ixD (dVar 5) (dC (.int 0))) (dCons (dOp ixD (dVar 5) (dC (.int 1))) (dCons (dOp ixD (dVar 5) (dC (.int 2))) (dCons (dOp ixD (dVar 5) (dC (.int 3))) (dCons (dCall (g1 tupleD) (dCons (dVar 6) dNil)) dNil))))))))))
def Fb_l_blocks : Rho → SR := (seqF (setF 2 (dLst dNil)) (seqF (forF (dIt itemsT (dVar 1)) (tgT 2 (tgCons (tgN 3) (tgCons (tgN 4) tgNil))) Lp_l_blocks_3) (retF (dVar 2))))
def F_l_blocks : List D → Res D := runF 11 false Fb_l_blocks
def Fb_l_galley_is : Rho → SR := (seqF (ifF (dOr (dNot (dT (dUn (isiO "Galley") (dVar 0)))) (dNot (dT (dCall (F_l_same 8) (dCons (dCall (g1 (listO "Galley" "blocks" "all_pieces")) (dCons (dVar 0) dNil)) (dCons (dVar 1) dNil)))))) (retF (dC (.bl false))) .nx) (retF (dOp eqD (dCall (g1 (lenO "Galley" F_Galley_len)) (dCons (dVar 0) dNil)) (dCall (g1 sumD) (dCons (dLc (dIt itemsL (dVar 1)) (tgN 2) dYes (dCall (g1 lenD) (dCons (dOp ixD (dVar 2) (dC (.int 4))) dNil)) [2]) dNil)))))
def F_l_galley_is : List D → Res D := runF 3 false Fb_l_galley_is
def Lp_l_is_telling_1 : Rho → SR := (ifF (dOr (dNot (dT (dCall F_l_number (dCons (dVar 8) dNil)))) (dNot (dT (dChain leD ltD (dC (.int 0)) (dVar 8) (dCall (g1 lenD) (dCons (dOp ixD (dOp ixD (dVar 0) (dOp ixD (dVar 7) (dC (.int 0)))) (dC (.int 6))) dNil)))))) (retF (dC (.bl false))) .nx)
def Lp_l_is_telling_2 : Rho → SR := (seqF (ifF (dOr (dNot (dT (dUn (isiD "tuple") (dVar 7)))) (dOr (dT (dOp neD (dCall (g1 lenD) (dCons (dVar 7) dNil)) (dC (.int 2)))) (dOr (dNot (dT (dUn (isiD "tuple") (dOp ixD (dVar 7) (dC (.int 1)))))) (dT (dOp eqD (dCall (g1 lenD) (dCons (dOp ixD (dVar 7) (dC (.int 1))) dNil)) (dC (.int 0))))))) (retF (dC (.bl false))) .nx) (seqF (ifF (dOr (dNot (dT (dCall F_l_number (dCons (dOp ixD (dVar 7) (dC (.int 0))) dNil)))) (dNot (dT (dChain leD ltD (dC (.int 0)) (dOp ixD (dVar 7) (dC (.int 0))) (dCall (g1 lenD) (dCons (dVar 0) dNil)))))) (retF (dC (.bl false))) .nx) (seqF (ifF (dOr (dAnd (dT (dOp ltD (dVar 6) (dC (.int 0)))) (dT (dOp ninD (dOp ixD (dVar 7) (dC (.int 0))) (dVar 1)))) (dAnd (dT (dOp geD (dVar 6) (dC (.int 0)))) (dT (dOp ninD (dOp ixD (dVar 7) (dC (.int 0))) (dOp ixD (dVar 2) (dVar 6)))))) (retF (dC (.bl false))) .nx) (seqF (forF (dIt itemsT (dOp ixD (dVar 7) (dC (.int 1)))) (tgN 8) Lp_l_is_telling_1) (seqF (setF 5 (dOp addD (dVar 5) (dCall (g1 lenD) (dCons (dOp ixD (dVar 7) (dC (.int 1))) dNil)))) (setF 6 (dOp ixD (dVar 7) (dC (.int 0)))))))))
def Fb_l_is_telling : Rho → SR := (seqF (ifF (dOr (dNot (dT (dUn (isiD "tuple") (dVar 3)))) (dT (dOp eqD (dCall (g1 lenD) (dCons (dVar 3) dNil)) (dC (.int 0))))) (retF (dC (.bl false))) .nx) (seqF (setF 5 (dC (.int 0))) (seqF (setF 6 (dUn negD (dC (.int 1)))) (seqF (forF (dIt itemsT (dVar 3)) (tgN 7) Lp_l_is_telling_2) (retF (dOp eqD (dVar 5) (dVar 4)))))))
def F_l_is_telling : List D → Res D := runF 9 false Fb_l_is_telling
def Lp_l_count_1 : Rho → SR := (stoF 4 (dVar 5) (dCall (g1 lenD) (dCons (dOp ixD (dOp ixD (dVar 0) (dVar 5)) (dC (.int 6))) dNil)))
def Lp_l_count_2 : Rho → SR := (ifF (dT (dOp inD (dVar 5) (dOp ixD (dVar 2) (dVar 9)))) (setF 8 (dOp addD (dVar 8) (dOp ixD (dVar 4) (dVar 9)))) .nx)
def Lp_l_count_3 : Rho → SR := (seqF (setF 8 (dOp ixD (dVar 4) (dVar 5))) (seqF (forF (dIts rng1 (dCons (dCall (g1 lenD) (dCons (dVar 0) dNil)) dNil)) (tgN 9) Lp_l_count_2) (appF 7 (dOp mulX (dVar 8) (dCall (g1 lenD) (dCons (dOp ixD (dOp ixD (dVar 0) (dVar 5)) (dC (.int 6))) dNil))))))
def Lp_l_count_4 : Rho → SR := (seqF (setF 7 (dLst dNil)) (seqF (forF (dIts rng1 (dCons (dCall (g1 lenD) (dCons (dVar 0) dNil)) dNil)) (tgN 5) Lp_l_count_3) (setF 4 (dVar 7))))
def Fb_l_count : Rho → SR := (seqF (setF 4 (dLc (dIt itemsT (dVar 0)) (tgN 5) dYes (dC (.int 0)) [5])) (seqF (forF (dIt itemsT (dVar 1)) (tgN 5) Lp_l_count_1) (seqF (forF (dIts rng1 (dCons (dOp subD (dVar 3) (dC (.int 1))) dNil)) (tgN 6) Lp_l_count_4) (retF (dCall (g1 sumD) (dCons (dVar 4) dNil))))))
def F_l_count : List D → Res D := runF 10 false Fb_l_count
def Lp_l_all_told_1 : Rho → SR := (seqF (ifF (dNot (dT (dCall F_l_is_telling (dCons (dVar 1) (dCons (dVar 2) (dCons (dVar 3) (dCons (dOp ixD (dVar 5) (dVar 6)) (dCons (dVar 4) dNil)))))))) (retF (dC (.bl false))) .nx) (ifF (dAnd (dT (dOp gtD (dVar 6) (dC (.int 0)))) (dNot (dT (dOp ltDD (dOp ixD (dVar 5) (dOp subD (dVar 6) (dC (.int 1)))) (dOp ixD (dVar 5) (dVar 6)))))) (retF (dC (.bl false))) .nx))
def Fb_l_all_told : Rho → SR := (seqF (setF 5 (dListG (dMethGA "Family" "every_telling" F_Family_every_telling (dVar 0) (dCons (dVar 4) dNil)))) (seqF (forF (dIts rng1 (dCons (dCall (g1 lenD) (dCons (dVar 5) dNil)) dNil)) (tgN 6) Lp_l_all_told_1) (retF (dOp eqD (dCall (g1 lenD) (dCons (dVar 5) dNil)) (dCall F_l_count (dCons (dVar 1) (dCons (dVar 2) (dCons (dVar 3) (dCons (dVar 4) dNil)))))))))
def F_l_all_told : List D → Res D := runF 7 false Fb_l_all_told
def Fb_law : Rho → SR := (seqF (setF 1 (dCall F_l_row (dCons (dCall F_l_cell (dCons (dVar 0) (dCons (dC (.int 0)) dNil))) (dCons (dLst (dCons (dC (.int 3)) (dCons (dC (.int 7)) (dCons (dC (.int 2)) (dCons (dC (.int 8)) (dCons (dC (.int 2)) (dCons (dC (.int 8)) (dCons (dC (.int 2)) (dCons (dC (.int 8)) (dCons (dC (.int 2)) (dCons (dC (.int 5)) dNil))))))))))) dNil)))) (seqF (setF 2 (dOp addD (dOp ixD (dVar 1) (dC (.int 0))) (dC (.int 1)))) (seqF (setF 3 (dCall (g1 tupleD) (dCons (dLc (dIts rng1 (dCons (dVar 2) dNil)) (tgN 4) dYes (dCall F_l_case (dCons (dCall F_l_cell (dCons (dVar 0) (dCons (dOp addD (dVar 4) (dC (.int 1))) dNil))) dNil)) [4]) dNil))) (seqF (setF 5 (dCall F_l_some (dCons (dOp addD (dOp ixD (dVar 1) (dC (.int 1))) (dC (.int 1))) (dCons (dVar 2) (dCons (dOp ixD (dVar 1) (dC (.int 2))) dNil))))) (seqF (ifF (dT (dOp eqD (dCall (g1 lenD) (dCons (dVar 5) dNil)) (dC (.int 0)))) (setF 5 (dTup (dCons (dC (.int 0)) dNil))) .nx) (seqF (setF 6 (dCall (g1 tupleD) (dCons (dLc (dIts rng1 (dCons (dVar 2) dNil)) (tgN 4) dYes (dCall F_l_some (dCons (dOp ixD (dVar 1) (dOp addD (dOp mulX (dC (.int 2)) (dVar 4)) (dC (.int 3)))) (dCons (dVar 2) (dCons (dOp ixD (dVar 1) (dOp addD (dOp mulX (dC (.int 2)) (dVar 4)) (dC (.int 4)))) dNil)))) [4]) dNil))) (seqF (setF 7 (dCall F_Family_init (dCons (dVar 3) (dCons (dVar 5) (dCons (dVar 6) dNil))))) (seqF (ifF (dNot (dT (dCall (F_l_same 8) (dCons (dLst (dCons (dUn (fldD "Family" "cases") (dVar 7)) (dCons (dUn (fldD "Family" "firsts") (dVar 7)) (dCons (dUn (fldD "Family" "follows") (dVar 7)) dNil)))) (dCons (dLst (dCons (dVar 3) (dCons (dVar 5) (dCons (dVar 6) dNil)))) dNil))))) (retF (dC (.bl false))) .nx) (seqF (setF 8 (dCall F_l_row (dCons (dCall F_l_cell (dCons (dVar 0) (dCons (dC (.int 4)) dNil))) (dCons (dOp addD (dLst (dCons (dC (.int 8)) (dCons (dC (.int 4)) (dCons (dC (.int 20)) (dCons (dC (.int 3)) (dCons (dC (.int 3)) dNil)))))) (dOp mulX (dLst (dCons (dC (.int 60)) dNil)) (dC (.int 7)))) dNil)))) (seqF (setF 9 (dCall F_l_telling (dCons (dVar 3) (dCons (dVar 5) (dCons (dVar 6) (dCons (dSl slD (dVar 8) (dPart (dC (.int 3))) (dPart (dOp addD (dOp ixD (dVar 8) (dC (.int 0))) (dC (.int 5))))) dNil)))))) (seqF (ifF (dT (dOp eqD (dOp ixD (dVar 8) (dC (.int 1))) (dC (.int 0)))) (seqF (asgF (tgT 2 (tgCons (tgN 10) (tgCons (tgN 11) tgNil))) (dOp ixD (dVar 9) (dUn negD (dC (.int 1))))) (seqF (setF 12 (dCall (g1 tupleD) (dCons (dLc (dIts rng1 (dCons (dOp addD (dOp ixD (dVar 8) (dC (.int 2))) (dC (.int 10))) dNil)) (tgN 4) dYes (dOp modD (dCall (g1 intD) (dCons (dVar 4) dNil)) (dCall (g1 lenD) (dCons (dOp ixD (dOp ixD (dVar 3) (dVar 10)) (dC (.int 6))) dNil))) [4]) dNil))) (setF 9 (dOp addD (dSl slD (dVar 9) dNoP (dPart (dUn negD (dC (.int 1))))) (dTup (dCons (dTup (dCons (dVar 10) (dCons (dOp addD (dVar 11) (dVar 12)) dNil))) dNil)))))) .nx) (seqF (setF 13 (dCall F_l_blocks (dCons (dVar 3) (dCons (dVar 9) dNil)))) (seqF (ifF (dNot (dT (dCall F_l_galley_is (dCons (dMeth "Family" "galley_of" F_Family_galley_of (dVar 7) (dCons (dVar 9) dNil)) (dCons (dVar 13) dNil))))) (retF (dC (.bl false))) .nx) (seqF (setF 14 (dTup (dCons (dTup (dCons (dOp ixD (dVar 5) (dC (.int 0))) (dCons (dTup (dCons (dC (.int 0)) dNil)) dNil))) dNil))) (seqF (ifF (dNot (dT (dCall F_l_galley_is (dCons (dMeth "Family" "galley_of" F_Family_galley_of (dVar 7) (dCons (dVar 14) dNil)) (dCons (dCall F_l_blocks (dCons (dVar 3) (dCons (dVar 14) dNil))) dNil))))) (retF (dC (.bl false))) .nx) (seqF (ifF (dNot (dT (dCall F_l_galley_is (dCons (dMeth "Family" "galley_of" F_Family_galley_of (dVar 7) (dCons (dVar 9) dNil)) (dCons (dVar 13) dNil))))) (retF (dC (.bl false))) .nx) (seqF (setF 15 (dCall (g1 sumD) (dCons (dLc (dIt itemsT (dVar 3)) (tgN 10) dYes (dCall (g1 lenD) (dCons (dOp ixD (dVar 10) (dC (.int 6))) dNil)) [10]) dNil))) (seqF (setF 16 (dC (.int 2))) (seqF (ifF (dT (dOp leD (dVar 15) (dC (.int 4)))) (setF 16 (dC (.int 3))) .nx) (seqF (ifF (dT (dOp leD (dVar 15) (dC (.int 2)))) (setF 16 (dC (.int 5))) .nx) (retF (dCall F_l_all_told (dCons (dVar 7) (dCons (dVar 3) (dCons (dVar 5) (dCons (dVar 6) (dCons (dOp addD (dC (.int 1)) (dOp modD (dCall (g1 intD) (dCons (dOp ixD (dVar 1) (dC (.int 9))) dNil)) (dVar 16))) dNil)))))))))))))))))))))))))))
def F_law : List D → Res D := runF 17 false Fb_law
end
end Lk
end S_P_data
section S_MM_base
set_option Elab.async false
set_option linter.all false
set_option maxHeartbeats 2000000
set_option maxRecDepth 100000
namespace Lk
open PySem L2 Dx
local macro_rules
  | `(tactic| array_get_dec) => `(tactic| repeat (first
    | ((with_reducible apply Dx.rs_asSJ); · (first | omega | (simp only [List.length_append, List.length_cons, List.length_nil, List.length_map, List.length_range, List.length_replicate, List.length_reverse, List.length_take, List.length_drop]; omega)))
    | with_reducible refine Dx.rs_c ?_
    | with_reducible refine Dx.rs_op ?_
    | with_reducible refine Dx.rs_str ?_
    | with_reducible refine Dx.rs_asS ?_
    | with_reducible refine Dx.rs_un ?_
    | with_reducible refine Dx.rs_nil ?_
    | with_reducible refine Dx.rs_cons ?_
    | with_reducible refine Dx.rs_call ?_
    | with_reducible refine Dx.rs_T ?_
    | with_reducible refine Dx.rs_asB ?_
    | with_reducible refine Dx.rs_asI ?_
    | with_reducible refine Dx.rs_not ?_
    | with_reducible refine Dx.rs_and ?_
    | with_reducible refine Dx.rs_or ?_
    | with_reducible refine Dx.rs_andV ?_
    | with_reducible refine Dx.rs_orV ?_
    | with_reducible refine Dx.rs_notV ?_
    | with_reducible refine Dx.rs_chain ?_
    | with_reducible refine Dx.rs_noP ?_
    | with_reducible refine Dx.rs_part ?_
    | with_reducible refine Dx.rs_sl ?_
    | with_reducible refine Dx.rs_it ?_
    | with_reducible refine Dx.rs_its ?_
    | with_reducible refine Dx.rs_yes ?_
    | with_reducible refine Dx.rs_meth ?_
    | with_reducible refine Dx.rs_tru ?_
    | with_reducible refine Dx.rs_truB ?_
    | with_reducible refine Dx.rs_truI ?_
    | with_reducible refine Dx.rs_truL ?_
    | with_reducible refine Dx.rs_truT ?_
    | with_reducible refine Dx.rs_truN ?_
    | with_reducible refine Dx.rs_ifx ?_
    | with_reducible refine Dx.rs_add ?_
    | with_reducible refine Dx.rs_sub ?_
    | with_reducible refine Dx.rs_neg ?_
    | with_reducible refine Dx.rs_eqI ?_
    | with_reducible refine Dx.rs_neI ?_
    | with_reducible refine Dx.rs_eqS ?_
    | with_reducible refine Dx.rs_neS ?_
    | with_reducible refine Dx.rs_eqB ?_
    | with_reducible refine Dx.rs_neB ?_
    | with_reducible refine Dx.rs_lt ?_
    | with_reducible refine Dx.rs_le ?_
    | with_reducible refine Dx.rs_gt ?_
    | with_reducible refine Dx.rs_ge ?_
    | with_reducible refine Dx.rs_is ?_
    | with_reducible refine Dx.rs_isn ?_
    | with_reducible refine Dx.rs_inS ?_
    | with_reducible refine Dx.rs_ninS ?_
    | with_reducible refine Dx.rs_lenL ?_
    | with_reducible refine Dx.rs_lenF ?_
    | with_reducible refine Dx.rs_lenT ?_
    | with_reducible refine Dx.rs_int ?_
    | with_reducible refine Dx.rs_intB ?_
    | with_reducible refine Dx.rs_abs ?_
    | with_reducible refine Dx.rs_listL ?_
    | with_reducible refine Dx.rs_listT ?_
    | with_reducible refine Dx.rs_tupL ?_
    | with_reducible refine Dx.rs_tupT ?_
    | with_reducible refine Dx.rs_slL ?_
    | with_reducible refine Dx.rs_slO ?_
    | with_reducible refine Dx.rs_slT ?_
    | with_reducible refine Dx.rs_itsL ?_
    | with_reducible refine Dx.rs_itsT ?_
    | with_reducible refine Dx.rs_itsS ?_
    | with_reducible refine Dx.rs_enL ?_
    | with_reducible refine Dx.rs_enT ?_
    | with_reducible refine Dx.rs_enS ?_
    | with_reducible refine Dx.rs_ints ?_
    | with_reducible refine Dx.rs_sortI ?_
    | with_reducible refine Dx.rs_sum ?_
    | with_reducible refine Dx.rs_g2 ?_
    | with_reducible refine Dx.rs_all ?_
    | with_reducible refine Dx.rs_disp ?_
    | with_reducible refine Dx.rs_pnil ?_
    | with_reducible refine Dx.rs_pcons ?_
    | with_reducible refine Dx.rs_jnil ?_
    | with_reducible refine Dx.rs_jcons ?_
    | with_reducible refine Dx.rs_dJoin ?_
    | with_reducible refine Dx.rs_ord ?_
    | with_reducible refine Dx.rs_leS ?_
    | with_reducible refine Dx.rs_inKI ?_
    | with_reducible refine Dx.rs_inI ?_
    | with_reducible refine Dx.rs_ninI ?_
    | with_reducible refine Dx.rs_inTk ?_
    | with_reducible refine Dx.rs_getET ?_
    | with_reducible refine Dx.rs_dD0 ?_
    | with_reducible refine Dx.rs_listTk ?_
    | with_reducible refine Dx.rs_lenTk ?_
    | with_reducible refine Dx.rs_itTk ?_
    | with_reducible refine Dx.rs_end ?_
    | with_reducible refine Dx.rs_start ?_
    | with_reducible refine Dx.rs_star ?_
    | with_reducible refine Dx.rs_itemsL ?_
    | with_reducible refine Dx.rs_itemsT ?_
    | with_reducible refine Dx.rs_zipL ?_
    | with_reducible refine Dx.rs_zipS ?_
    | with_reducible refine Dx.rs_isi_non_bool ?_
    | with_reducible refine Dx.rs_isi_non_int ?_
    | with_reducible refine Dx.rs_isi_non_str ?_
    | with_reducible refine Dx.rs_isi_non_tuple ?_
    | with_reducible refine Dx.rs_isi_non_list ?_
    | with_reducible refine Dx.rs_isi_bl_bool ?_
    | with_reducible refine Dx.rs_isi_bl_int ?_
    | with_reducible refine Dx.rs_isi_bl_str ?_
    | with_reducible refine Dx.rs_isi_bl_tuple ?_
    | with_reducible refine Dx.rs_isi_bl_list ?_
    | with_reducible refine Dx.rs_isi_int_bool ?_
    | with_reducible refine Dx.rs_isi_int_int ?_
    | with_reducible refine Dx.rs_isi_int_str ?_
    | with_reducible refine Dx.rs_isi_int_tuple ?_
    | with_reducible refine Dx.rs_isi_int_list ?_
    | with_reducible refine Dx.rs_isi_str_bool ?_
    | with_reducible refine Dx.rs_isi_str_int ?_
    | with_reducible refine Dx.rs_isi_str_str ?_
    | with_reducible refine Dx.rs_isi_str_tuple ?_
    | with_reducible refine Dx.rs_isi_str_list ?_
    | with_reducible refine Dx.rs_isi_lst_bool ?_
    | with_reducible refine Dx.rs_isi_lst_int ?_
    | with_reducible refine Dx.rs_isi_lst_str ?_
    | with_reducible refine Dx.rs_isi_lst_tuple ?_
    | with_reducible refine Dx.rs_isi_lst_list ?_
    | with_reducible refine Dx.rs_isi_tup_bool ?_
    | with_reducible refine Dx.rs_isi_tup_int ?_
    | with_reducible refine Dx.rs_isi_tup_str ?_
    | with_reducible refine Dx.rs_isi_tup_tuple ?_
    | with_reducible refine Dx.rs_isi_tup_list ?_
    | with_reducible refine Dx.ss_nx ?_
    | with_reducible refine Dx.ss_bk ?_
    | with_reducible refine Dx.ss_ct ?_
    | with_reducible refine Dx.ss_seq ?_
    | with_reducible refine Dx.ss_set ?_
    | with_reducible refine Dx.ss_ret ?_
    | with_reducible refine Dx.ss_drop ?_
    | with_reducible refine Dx.ss_if ?_
    | with_reducible refine Dx.ss_par ?_
    | with_reducible refine Dx.ss_par3 ?_
    | with_reducible refine Dx.ss_aug ?_
    | ((with_reducible apply Dx.rs_var); · (rfl))
    | ((with_reducible apply Dx.rs_ixL); · (first | rfl | assumption))
    | ((with_reducible apply Dx.rs_ixF); · (first | rfl | assumption))
    | ((with_reducible apply Dx.rs_ixT); · (first | rfl | assumption))
    | ((with_reducible apply Dx.rs_fld); · (rfl))
    | ((with_reducible apply Dx.rs_isObj); · (decide))
    | ((with_reducible apply Dx.rs_mod); · (omega))
    | ((with_reducible apply Dx.rs_fdiv); · (omega))
    | ((with_reducible apply Dx.rs_addS); · ((first | exact Nat.le_of_ble_eq_true rfl | assumption | (refine Nat.le_trans (m := 100000) ?_ Dx.sz5; first | omega | (simp only [List.length_append, List.length_cons, List.length_nil, List.length_map, List.length_range, List.length_replicate, List.length_reverse, List.length_take, List.length_drop]; omega)))))
    | ((with_reducible apply Dx.rs_addT); · ((first | exact Nat.le_of_ble_eq_true rfl | assumption | (refine Nat.le_trans (m := 100000) ?_ Dx.sz5; first | omega | (simp only [List.length_append, List.length_cons, List.length_nil, List.length_map, List.length_range, List.length_replicate, List.length_reverse, List.length_take, List.length_drop]; omega)))))
    | ((with_reducible apply Dx.rs_addLL); · ((first | exact Nat.le_of_ble_eq_true rfl | assumption | (refine Nat.le_trans (m := 100000) ?_ Dx.sz5; first | omega | (simp only [List.length_append, List.length_cons, List.length_nil, List.length_map, List.length_range, List.length_replicate, List.length_reverse, List.length_take, List.length_drop]; omega)))))
    | ((with_reducible apply Dx.rs_addLO); · ((first | exact Nat.le_of_ble_eq_true rfl | assumption | (refine Nat.le_trans (m := 100000) ?_ Dx.sz5; first | omega | (simp only [List.length_append, List.length_cons, List.length_nil, List.length_map, List.length_range, List.length_replicate, List.length_reverse, List.length_take, List.length_drop]; omega)))))
    | ((with_reducible apply Dx.rs_lenS); · ((first | exact Nat.le_of_ble_eq_true rfl | assumption | (refine Nat.le_trans (m := 100000) ?_ Dx.sz5; first | omega | (simp only [List.length_append, List.length_cons, List.length_nil, List.length_map, List.length_range, List.length_replicate, List.length_reverse, List.length_take, List.length_drop]; omega)))))
    | ((with_reducible apply Dx.rs_slS); · ((first | exact Nat.le_of_ble_eq_true rfl | assumption | (refine Nat.le_trans (m := 100000) ?_ Dx.sz5; first | omega | (simp only [List.length_append, List.length_cons, List.length_nil, List.length_map, List.length_range, List.length_replicate, List.length_reverse, List.length_take, List.length_drop]; omega)))))
    | ((with_reducible apply Dx.rs_mul); · ((first | exact Or.inl (Dx.small_of (by omega) (by omega)) | exact Or.inr (Dx.small_of (by omega) (by omega)))))
    | ((with_reducible apply Dx.rs_strI); · (omega))
    | ((with_reducible apply Dx.rs_fmtI); · (omega))
    | ((with_reducible apply Dx.rs_fmtS); · ((first | exact Nat.le_of_ble_eq_true rfl | assumption | (refine Nat.le_trans (m := 100000) ?_ Dx.sz5; first | omega | (simp only [List.length_append, List.length_cons, List.length_nil, List.length_map, List.length_range, List.length_replicate, List.length_reverse, List.length_take, List.length_drop]; omega)))))
    | ((with_reducible apply Dx.rs_split); · (refine And.intro (by decide) ?_; (first | exact Nat.le_of_ble_eq_true rfl | assumption | (refine Nat.le_trans (m := 100000) ?_ Dx.sz5; first | omega | (simp only [List.length_append, List.length_cons, List.length_nil, List.length_map, List.length_range, List.length_replicate, List.length_reverse, List.length_take, List.length_drop]; omega)))))
    | ((with_reducible apply Dx.ss_app); · (rfl))
    | (with_reducible refine Dx.rs_tup ?_)
    | (with_reducible refine Dx.rs_lst ?_)
    | ((with_reducible refine And.intro (a := List.length _ ≤ PySem.sizeLine) ?_ ?_); · ((first | exact Nat.le_of_ble_eq_true rfl | assumption | (refine Nat.le_trans (m := 100000) ?_ Dx.sz5; first | omega | (simp only [List.length_append, List.length_cons, List.length_nil, List.length_map, List.length_range, List.length_replicate, List.length_reverse, List.length_take, List.length_drop]; omega)))))
    | ((with_reducible refine And.intro (a := List.length _ < PySem.sizeLine) ?_ ?_); · (first | exact Nat.le_of_ble_eq_true rfl | (refine Nat.lt_of_lt_of_le (m := 100000) ?_ Dx.sz5; first | omega | (simp only [List.length_append, List.length_cons, List.length_nil, List.length_map, List.length_range, List.length_replicate, List.length_reverse, List.length_take, List.length_drop]; omega))))))
local macro_rules
  | `(tactic| array_mem_dec) => `(tactic| repeat (first
    | with_reducible refine Dx.ss_ifo ?_
    | with_reducible refine Dx.ss_ifa ?_
    | with_reducible refine Dx.rs_andc ?_
    | with_reducible refine Dx.rs_orc ?_
    | with_reducible refine Dx.rs_andVc ?_
    | with_reducible refine Dx.rs_orVc ?_
    | ((with_reducible apply Dx.rs_asSJ); · (first | omega | (simp only [List.length_append, List.length_cons, List.length_nil, List.length_map, List.length_range, List.length_replicate, List.length_reverse, List.length_take, List.length_drop]; omega)))
    | with_reducible refine Dx.rs_c ?_
    | with_reducible refine Dx.rs_op ?_
    | with_reducible refine Dx.rs_str ?_
    | with_reducible refine Dx.rs_asS ?_
    | with_reducible refine Dx.rs_un ?_
    | with_reducible refine Dx.rs_nil ?_
    | with_reducible refine Dx.rs_cons ?_
    | with_reducible refine Dx.rs_call ?_
    | with_reducible refine Dx.rs_T ?_
    | with_reducible refine Dx.rs_asB ?_
    | with_reducible refine Dx.rs_asI ?_
    | with_reducible refine Dx.rs_not ?_
    | with_reducible refine Dx.rs_notV ?_
    | with_reducible refine Dx.rs_chain ?_
    | with_reducible refine Dx.rs_noP ?_
    | with_reducible refine Dx.rs_part ?_
    | with_reducible refine Dx.rs_sl ?_
    | with_reducible refine Dx.rs_it ?_
    | with_reducible refine Dx.rs_its ?_
    | with_reducible refine Dx.rs_yes ?_
    | with_reducible refine Dx.rs_meth ?_
    | with_reducible refine Dx.rs_tru ?_
    | with_reducible refine Dx.rs_truB ?_
    | with_reducible refine Dx.rs_truI ?_
    | with_reducible refine Dx.rs_truL ?_
    | with_reducible refine Dx.rs_truT ?_
    | with_reducible refine Dx.rs_truN ?_
    | with_reducible refine Dx.rs_add ?_
    | with_reducible refine Dx.rs_sub ?_
    | with_reducible refine Dx.rs_neg ?_
    | with_reducible refine Dx.rs_eqI ?_
    | with_reducible refine Dx.rs_neI ?_
    | with_reducible refine Dx.rs_eqS ?_
    | with_reducible refine Dx.rs_neS ?_
    | with_reducible refine Dx.rs_eqB ?_
    | with_reducible refine Dx.rs_neB ?_
    | with_reducible refine Dx.rs_lt ?_
    | with_reducible refine Dx.rs_le ?_
    | with_reducible refine Dx.rs_gt ?_
    | with_reducible refine Dx.rs_ge ?_
    | with_reducible refine Dx.rs_is ?_
    | with_reducible refine Dx.rs_isn ?_
    | with_reducible refine Dx.rs_inS ?_
    | with_reducible refine Dx.rs_ninS ?_
    | with_reducible refine Dx.rs_lenL ?_
    | with_reducible refine Dx.rs_lenF ?_
    | with_reducible refine Dx.rs_lenT ?_
    | with_reducible refine Dx.rs_int ?_
    | with_reducible refine Dx.rs_intB ?_
    | with_reducible refine Dx.rs_abs ?_
    | with_reducible refine Dx.rs_listL ?_
    | with_reducible refine Dx.rs_listT ?_
    | with_reducible refine Dx.rs_tupL ?_
    | with_reducible refine Dx.rs_tupT ?_
    | with_reducible refine Dx.rs_slL ?_
    | with_reducible refine Dx.rs_slO ?_
    | with_reducible refine Dx.rs_slT ?_
    | with_reducible refine Dx.rs_itsL ?_
    | with_reducible refine Dx.rs_itsT ?_
    | with_reducible refine Dx.rs_itsS ?_
    | with_reducible refine Dx.rs_enL ?_
    | with_reducible refine Dx.rs_enT ?_
    | with_reducible refine Dx.rs_enS ?_
    | with_reducible refine Dx.rs_ints ?_
    | with_reducible refine Dx.rs_sortI ?_
    | with_reducible refine Dx.rs_sum ?_
    | with_reducible refine Dx.rs_g2 ?_
    | with_reducible refine Dx.rs_all ?_
    | with_reducible refine Dx.rs_disp ?_
    | with_reducible refine Dx.rs_pnil ?_
    | with_reducible refine Dx.rs_pcons ?_
    | with_reducible refine Dx.rs_jnil ?_
    | with_reducible refine Dx.rs_jcons ?_
    | with_reducible refine Dx.rs_dJoin ?_
    | with_reducible refine Dx.rs_ord ?_
    | with_reducible refine Dx.rs_leS ?_
    | with_reducible refine Dx.rs_inKI ?_
    | with_reducible refine Dx.rs_inI ?_
    | with_reducible refine Dx.rs_ninI ?_
    | with_reducible refine Dx.rs_inTk ?_
    | with_reducible refine Dx.rs_getET ?_
    | with_reducible refine Dx.rs_dD0 ?_
    | with_reducible refine Dx.rs_listTk ?_
    | with_reducible refine Dx.rs_lenTk ?_
    | with_reducible refine Dx.rs_itTk ?_
    | with_reducible refine Dx.rs_end ?_
    | with_reducible refine Dx.rs_start ?_
    | with_reducible refine Dx.rs_star ?_
    | with_reducible refine Dx.rs_itemsL ?_
    | with_reducible refine Dx.rs_itemsT ?_
    | with_reducible refine Dx.rs_zipL ?_
    | with_reducible refine Dx.rs_zipS ?_
    | with_reducible refine Dx.rs_isi_non_bool ?_
    | with_reducible refine Dx.rs_isi_non_int ?_
    | with_reducible refine Dx.rs_isi_non_str ?_
    | with_reducible refine Dx.rs_isi_non_tuple ?_
    | with_reducible refine Dx.rs_isi_non_list ?_
    | with_reducible refine Dx.rs_isi_bl_bool ?_
    | with_reducible refine Dx.rs_isi_bl_int ?_
    | with_reducible refine Dx.rs_isi_bl_str ?_
    | with_reducible refine Dx.rs_isi_bl_tuple ?_
    | with_reducible refine Dx.rs_isi_bl_list ?_
    | with_reducible refine Dx.rs_isi_int_bool ?_
    | with_reducible refine Dx.rs_isi_int_int ?_
    | with_reducible refine Dx.rs_isi_int_str ?_
    | with_reducible refine Dx.rs_isi_int_tuple ?_
    | with_reducible refine Dx.rs_isi_int_list ?_
    | with_reducible refine Dx.rs_isi_str_bool ?_
    | with_reducible refine Dx.rs_isi_str_int ?_
    | with_reducible refine Dx.rs_isi_str_str ?_
    | with_reducible refine Dx.rs_isi_str_tuple ?_
    | with_reducible refine Dx.rs_isi_str_list ?_
    | with_reducible refine Dx.rs_isi_lst_bool ?_
    | with_reducible refine Dx.rs_isi_lst_int ?_
    | with_reducible refine Dx.rs_isi_lst_str ?_
    | with_reducible refine Dx.rs_isi_lst_tuple ?_
    | with_reducible refine Dx.rs_isi_lst_list ?_
    | with_reducible refine Dx.rs_isi_tup_bool ?_
    | with_reducible refine Dx.rs_isi_tup_int ?_
    | with_reducible refine Dx.rs_isi_tup_str ?_
    | with_reducible refine Dx.rs_isi_tup_tuple ?_
    | with_reducible refine Dx.rs_isi_tup_list ?_
    | with_reducible refine Dx.ss_nx ?_
    | with_reducible refine Dx.ss_bk ?_
    | with_reducible refine Dx.ss_ct ?_
    | with_reducible refine Dx.ss_seq ?_
    | with_reducible refine Dx.ss_set ?_
    | with_reducible refine Dx.ss_ret ?_
    | with_reducible refine Dx.ss_drop ?_
    | with_reducible refine Dx.ss_if ?_
    | with_reducible refine Dx.ss_par ?_
    | with_reducible refine Dx.ss_par3 ?_
    | with_reducible refine Dx.ss_aug ?_
    | ((with_reducible apply Dx.rs_var); · (rfl))
    | ((with_reducible apply Dx.rs_ixL); · (first | rfl | assumption))
    | ((with_reducible apply Dx.rs_ixF); · (first | rfl | assumption))
    | ((with_reducible apply Dx.rs_ixT); · (first | rfl | assumption))
    | ((with_reducible apply Dx.rs_fld); · (rfl))
    | ((with_reducible apply Dx.rs_isObj); · (decide))
    | ((with_reducible apply Dx.rs_mod); · (omega))
    | ((with_reducible apply Dx.rs_fdiv); · (omega))
    | ((with_reducible apply Dx.rs_addS); · ((first | exact Nat.le_of_ble_eq_true rfl | assumption | (refine Nat.le_trans (m := 100000) ?_ Dx.sz5; first | omega | (simp only [List.length_append, List.length_cons, List.length_nil, List.length_map, List.length_range, List.length_replicate, List.length_reverse, List.length_take, List.length_drop]; omega)))))
    | ((with_reducible apply Dx.rs_addT); · ((first | exact Nat.le_of_ble_eq_true rfl | assumption | (refine Nat.le_trans (m := 100000) ?_ Dx.sz5; first | omega | (simp only [List.length_append, List.length_cons, List.length_nil, List.length_map, List.length_range, List.length_replicate, List.length_reverse, List.length_take, List.length_drop]; omega)))))
    | ((with_reducible apply Dx.rs_addLL); · ((first | exact Nat.le_of_ble_eq_true rfl | assumption | (refine Nat.le_trans (m := 100000) ?_ Dx.sz5; first | omega | (simp only [List.length_append, List.length_cons, List.length_nil, List.length_map, List.length_range, List.length_replicate, List.length_reverse, List.length_take, List.length_drop]; omega)))))
    | ((with_reducible apply Dx.rs_addLO); · ((first | exact Nat.le_of_ble_eq_true rfl | assumption | (refine Nat.le_trans (m := 100000) ?_ Dx.sz5; first | omega | (simp only [List.length_append, List.length_cons, List.length_nil, List.length_map, List.length_range, List.length_replicate, List.length_reverse, List.length_take, List.length_drop]; omega)))))
    | ((with_reducible apply Dx.rs_lenS); · ((first | exact Nat.le_of_ble_eq_true rfl | assumption | (refine Nat.le_trans (m := 100000) ?_ Dx.sz5; first | omega | (simp only [List.length_append, List.length_cons, List.length_nil, List.length_map, List.length_range, List.length_replicate, List.length_reverse, List.length_take, List.length_drop]; omega)))))
    | ((with_reducible apply Dx.rs_slS); · ((first | exact Nat.le_of_ble_eq_true rfl | assumption | (refine Nat.le_trans (m := 100000) ?_ Dx.sz5; first | omega | (simp only [List.length_append, List.length_cons, List.length_nil, List.length_map, List.length_range, List.length_replicate, List.length_reverse, List.length_take, List.length_drop]; omega)))))
    | ((with_reducible apply Dx.rs_mul); · ((first | exact Or.inl (Dx.small_of (by omega) (by omega)) | exact Or.inr (Dx.small_of (by omega) (by omega)))))
    | ((with_reducible apply Dx.rs_strI); · (omega))
    | ((with_reducible apply Dx.rs_fmtI); · (omega))
    | ((with_reducible apply Dx.rs_fmtS); · ((first | exact Nat.le_of_ble_eq_true rfl | assumption | (refine Nat.le_trans (m := 100000) ?_ Dx.sz5; first | omega | (simp only [List.length_append, List.length_cons, List.length_nil, List.length_map, List.length_range, List.length_replicate, List.length_reverse, List.length_take, List.length_drop]; omega)))))
    | ((with_reducible apply Dx.rs_split); · (refine And.intro (by decide) ?_; (first | exact Nat.le_of_ble_eq_true rfl | assumption | (refine Nat.le_trans (m := 100000) ?_ Dx.sz5; first | omega | (simp only [List.length_append, List.length_cons, List.length_nil, List.length_map, List.length_range, List.length_replicate, List.length_reverse, List.length_take, List.length_drop]; omega)))))
    | ((with_reducible apply Dx.ss_app); · (rfl))
    | (with_reducible refine Dx.rs_tup ?_)
    | (with_reducible refine Dx.rs_lst ?_)
    | ((with_reducible refine And.intro (a := List.length _ ≤ PySem.sizeLine) ?_ ?_); · ((first | exact Nat.le_of_ble_eq_true rfl | assumption | (refine Nat.le_trans (m := 100000) ?_ Dx.sz5; first | omega | (simp only [List.length_append, List.length_cons, List.length_nil, List.length_map, List.length_range, List.length_replicate, List.length_reverse, List.length_take, List.length_drop]; omega)))))
    | ((with_reducible refine And.intro (a := List.length _ < PySem.sizeLine) ?_ ?_); · (first | exact Nat.le_of_ble_eq_true rfl | (refine Nat.lt_of_lt_of_le (m := 100000) ?_ Dx.sz5; first | omega | (simp only [List.length_append, List.length_cons, List.length_nil, List.length_map, List.length_range, List.length_replicate, List.length_reverse, List.length_take, List.length_drop]; omega))))
    | ((refine And.intro (fun h => absurd h ?_) (fun _ => ?_)); · (first | exact Bool.false_ne_true | (simp; done) | (simp; omega)))
    | ((refine And.intro (fun _ => ?_) (fun h => absurd h ?_)); rotate_left; · (first | exact (fun h => Bool.false_ne_true h.symm) | (simp; done) | (simp; omega)))))
local macro_rules
  | `(tactic| sizeOf_list_dec) => `(tactic| repeat (first
    | ((with_reducible apply Dx.rs_asSJ); · (first | omega | (simp only [List.length_append, List.length_cons, List.length_nil, List.length_map, List.length_range, List.length_replicate, List.length_reverse, List.length_take, List.length_drop]; omega)))
    | with_reducible refine Dx.rs_c ?_
    | with_reducible refine Dx.rs_op ?_
    | with_reducible refine Dx.rs_str ?_
    | with_reducible refine Dx.rs_asS ?_
    | with_reducible refine Dx.rs_un ?_
    | with_reducible refine Dx.rs_nil ?_
    | with_reducible refine Dx.rs_cons ?_
    | with_reducible refine Dx.rs_call ?_
    | with_reducible refine Dx.rs_T ?_
    | with_reducible refine Dx.rs_asB ?_
    | with_reducible refine Dx.rs_asI ?_
    | with_reducible refine Dx.rs_not ?_
    | with_reducible refine Dx.rs_and ?_
    | with_reducible refine Dx.rs_or ?_
    | with_reducible refine Dx.rs_andV ?_
    | with_reducible refine Dx.rs_orV ?_
    | with_reducible refine Dx.rs_notV ?_
    | with_reducible refine Dx.rs_chain ?_
    | with_reducible refine Dx.rs_noP ?_
    | with_reducible refine Dx.rs_part ?_
    | with_reducible refine Dx.rs_sl ?_
    | with_reducible refine Dx.rs_it ?_
    | with_reducible refine Dx.rs_its ?_
    | with_reducible refine Dx.rs_yes ?_
    | with_reducible refine Dx.rs_meth ?_
    | with_reducible refine Dx.rs_tru ?_
    | with_reducible refine Dx.rs_truB ?_
    | with_reducible refine Dx.rs_truI ?_
    | with_reducible refine Dx.rs_truL ?_
    | with_reducible refine Dx.rs_truT ?_
    | with_reducible refine Dx.rs_truN ?_
    | with_reducible refine Dx.rs_ifx ?_
    | with_reducible refine Dx.rs_add ?_
    | with_reducible refine Dx.rs_sub ?_
    | with_reducible refine Dx.rs_neg ?_
    | with_reducible refine Dx.rs_eqI ?_
    | with_reducible refine Dx.rs_neI ?_
    | with_reducible refine Dx.rs_eqS ?_
    | with_reducible refine Dx.rs_neS ?_
    | with_reducible refine Dx.rs_eqB ?_
    | with_reducible refine Dx.rs_neB ?_
    | with_reducible refine Dx.rs_lt ?_
    | with_reducible refine Dx.rs_le ?_
    | with_reducible refine Dx.rs_gt ?_
    | with_reducible refine Dx.rs_ge ?_
    | with_reducible refine Dx.rs_is ?_
    | with_reducible refine Dx.rs_isn ?_
    | with_reducible refine Dx.rs_inS ?_
    | with_reducible refine Dx.rs_ninS ?_
    | with_reducible refine Dx.rs_lenL ?_
    | with_reducible refine Dx.rs_lenF ?_
    | with_reducible refine Dx.rs_lenT ?_
    | with_reducible refine Dx.rs_int ?_
    | with_reducible refine Dx.rs_intB ?_
    | with_reducible refine Dx.rs_abs ?_
    | with_reducible refine Dx.rs_listL ?_
    | with_reducible refine Dx.rs_listT ?_
    | with_reducible refine Dx.rs_tupL ?_
    | with_reducible refine Dx.rs_tupT ?_
    | with_reducible refine Dx.rs_slL ?_
    | with_reducible refine Dx.rs_slO ?_
    | with_reducible refine Dx.rs_slT ?_
    | with_reducible refine Dx.rs_itsL ?_
    | with_reducible refine Dx.rs_itsT ?_
    | with_reducible refine Dx.rs_itsS ?_
    | with_reducible refine Dx.rs_enL ?_
    | with_reducible refine Dx.rs_enT ?_
    | with_reducible refine Dx.rs_enS ?_
    | with_reducible refine Dx.rs_ints ?_
    | with_reducible refine Dx.rs_sortI ?_
    | with_reducible refine Dx.rs_sum ?_
    | with_reducible refine Dx.rs_g2 ?_
    | with_reducible refine Dx.rs_all ?_
    | with_reducible refine Dx.rs_disp ?_
    | with_reducible refine Dx.rs_pnil ?_
    | with_reducible refine Dx.rs_pcons ?_
    | with_reducible refine Dx.rs_jnil ?_
    | with_reducible refine Dx.rs_jcons ?_
    | with_reducible refine Dx.rs_dJoin ?_
    | with_reducible refine Dx.rs_ord ?_
    | with_reducible refine Dx.rs_leS ?_
    | with_reducible refine Dx.rs_inKI ?_
    | with_reducible refine Dx.rs_inI ?_
    | with_reducible refine Dx.rs_ninI ?_
    | with_reducible refine Dx.rs_inTk ?_
    | with_reducible refine Dx.rs_getET ?_
    | with_reducible refine Dx.rs_dD0 ?_
    | with_reducible refine Dx.rs_listTk ?_
    | with_reducible refine Dx.rs_lenTk ?_
    | with_reducible refine Dx.rs_itTk ?_
    | with_reducible refine Dx.rs_end ?_
    | with_reducible refine Dx.rs_start ?_
    | with_reducible refine Dx.rs_star ?_
    | with_reducible refine Dx.rs_itemsL ?_
    | with_reducible refine Dx.rs_itemsT ?_
    | with_reducible refine Dx.rs_zipL ?_
    | with_reducible refine Dx.rs_zipS ?_
    | with_reducible refine Dx.rs_isi_non_bool ?_
    | with_reducible refine Dx.rs_isi_non_int ?_
    | with_reducible refine Dx.rs_isi_non_str ?_
    | with_reducible refine Dx.rs_isi_non_tuple ?_
    | with_reducible refine Dx.rs_isi_non_list ?_
    | with_reducible refine Dx.rs_isi_bl_bool ?_
    | with_reducible refine Dx.rs_isi_bl_int ?_
    | with_reducible refine Dx.rs_isi_bl_str ?_
    | with_reducible refine Dx.rs_isi_bl_tuple ?_
    | with_reducible refine Dx.rs_isi_bl_list ?_
    | with_reducible refine Dx.rs_isi_int_bool ?_
    | with_reducible refine Dx.rs_isi_int_int ?_
    | with_reducible refine Dx.rs_isi_int_str ?_
    | with_reducible refine Dx.rs_isi_int_tuple ?_
    | with_reducible refine Dx.rs_isi_int_list ?_
    | with_reducible refine Dx.rs_isi_str_bool ?_
    | with_reducible refine Dx.rs_isi_str_int ?_
    | with_reducible refine Dx.rs_isi_str_str ?_
    | with_reducible refine Dx.rs_isi_str_tuple ?_
    | with_reducible refine Dx.rs_isi_str_list ?_
    | with_reducible refine Dx.rs_isi_lst_bool ?_
    | with_reducible refine Dx.rs_isi_lst_int ?_
    | with_reducible refine Dx.rs_isi_lst_str ?_
    | with_reducible refine Dx.rs_isi_lst_tuple ?_
    | with_reducible refine Dx.rs_isi_lst_list ?_
    | with_reducible refine Dx.rs_isi_tup_bool ?_
    | with_reducible refine Dx.rs_isi_tup_int ?_
    | with_reducible refine Dx.rs_isi_tup_str ?_
    | with_reducible refine Dx.rs_isi_tup_tuple ?_
    | with_reducible refine Dx.rs_isi_tup_list ?_
    | with_reducible refine Dx.ss_nx ?_
    | with_reducible refine Dx.ss_bk ?_
    | with_reducible refine Dx.ss_ct ?_
    | with_reducible refine Dx.ss_seq ?_
    | with_reducible refine Dx.ss_set ?_
    | with_reducible refine Dx.ss_ret ?_
    | with_reducible refine Dx.ss_drop ?_
    | with_reducible refine Dx.ss_if ?_
    | with_reducible refine Dx.ss_par ?_
    | with_reducible refine Dx.ss_par3 ?_
    | with_reducible refine Dx.ss_aug ?_
    | ((with_reducible apply Dx.rs_var); · (rfl))
    | ((with_reducible apply Dx.rs_ixL); · (first | rfl | assumption))
    | ((with_reducible apply Dx.rs_ixF); · (first | rfl | assumption))
    | ((with_reducible apply Dx.rs_ixT); · (first | rfl | assumption))
    | ((with_reducible apply Dx.rs_fld); · (rfl))
    | ((with_reducible apply Dx.rs_isObj); · (decide))
    | ((with_reducible apply Dx.rs_mod); · (omega))
    | ((with_reducible apply Dx.rs_fdiv); · (omega))
    | ((with_reducible apply Dx.rs_addS); · ((first | exact Nat.le_of_ble_eq_true rfl | assumption | (refine Nat.le_trans (m := 100000) ?_ Dx.sz5; first | omega | (simp only [List.length_append, List.length_cons, List.length_nil, List.length_map, List.length_range, List.length_replicate, List.length_reverse, List.length_take, List.length_drop]; omega)))))
    | ((with_reducible apply Dx.rs_addT); · ((first | exact Nat.le_of_ble_eq_true rfl | assumption | (refine Nat.le_trans (m := 100000) ?_ Dx.sz5; first | omega | (simp only [List.length_append, List.length_cons, List.length_nil, List.length_map, List.length_range, List.length_replicate, List.length_reverse, List.length_take, List.length_drop]; omega)))))
    | ((with_reducible apply Dx.rs_addLL); · ((first | exact Nat.le_of_ble_eq_true rfl | assumption | (refine Nat.le_trans (m := 100000) ?_ Dx.sz5; first | omega | (simp only [List.length_append, List.length_cons, List.length_nil, List.length_map, List.length_range, List.length_replicate, List.length_reverse, List.length_take, List.length_drop]; omega)))))
    | ((with_reducible apply Dx.rs_addLO); · ((first | exact Nat.le_of_ble_eq_true rfl | assumption | (refine Nat.le_trans (m := 100000) ?_ Dx.sz5; first | omega | (simp only [List.length_append, List.length_cons, List.length_nil, List.length_map, List.length_range, List.length_replicate, List.length_reverse, List.length_take, List.length_drop]; omega)))))
    | ((with_reducible apply Dx.rs_lenS); · ((first | exact Nat.le_of_ble_eq_true rfl | assumption | (refine Nat.le_trans (m := 100000) ?_ Dx.sz5; first | omega | (simp only [List.length_append, List.length_cons, List.length_nil, List.length_map, List.length_range, List.length_replicate, List.length_reverse, List.length_take, List.length_drop]; omega)))))
    | ((with_reducible apply Dx.rs_slS); · ((first | exact Nat.le_of_ble_eq_true rfl | assumption | (refine Nat.le_trans (m := 100000) ?_ Dx.sz5; first | omega | (simp only [List.length_append, List.length_cons, List.length_nil, List.length_map, List.length_range, List.length_replicate, List.length_reverse, List.length_take, List.length_drop]; omega)))))
    | ((with_reducible apply Dx.rs_mul); · ((first | exact Or.inl (Dx.small_of (by omega) (by omega)) | exact Or.inr (Dx.small_of (by omega) (by omega)))))
    | ((with_reducible apply Dx.rs_strI); · (omega))
    | ((with_reducible apply Dx.rs_fmtI); · (omega))
    | ((with_reducible apply Dx.rs_fmtS); · ((first | exact Nat.le_of_ble_eq_true rfl | assumption | (refine Nat.le_trans (m := 100000) ?_ Dx.sz5; first | omega | (simp only [List.length_append, List.length_cons, List.length_nil, List.length_map, List.length_range, List.length_replicate, List.length_reverse, List.length_take, List.length_drop]; omega)))))
    | ((with_reducible apply Dx.rs_split); · (refine And.intro (by decide) ?_; (first | exact Nat.le_of_ble_eq_true rfl | assumption | (refine Nat.le_trans (m := 100000) ?_ Dx.sz5; first | omega | (simp only [List.length_append, List.length_cons, List.length_nil, List.length_map, List.length_range, List.length_replicate, List.length_reverse, List.length_take, List.length_drop]; omega)))))
    | ((with_reducible apply Dx.ss_app); · (rfl))
    | (with_reducible refine Dx.rs_tup ?_)
    | (with_reducible refine Dx.rs_lst ?_)
    | ((with_reducible refine And.intro (a := List.length _ ≤ PySem.sizeLine) ?_ ?_); · ((first | exact Nat.le_of_ble_eq_true rfl | assumption | (refine Nat.le_trans (m := 100000) ?_ Dx.sz5; first | omega | (simp only [List.length_append, List.length_cons, List.length_nil, List.length_map, List.length_range, List.length_replicate, List.length_reverse, List.length_take, List.length_drop]; omega)))))
    | ((with_reducible refine And.intro (a := List.length _ < PySem.sizeLine) ?_ ?_); · (first | exact Nat.le_of_ble_eq_true rfl | (refine Nat.lt_of_lt_of_le (m := 100000) ?_ Dx.sz5; first | omega | (simp only [List.length_append, List.length_cons, List.length_nil, List.length_map, List.length_range, List.length_replicate, List.length_reverse, List.length_take, List.length_drop]; omega))))
    | ((refine And.intro (fun h => absurd h ?_) (fun _ => ?_)); · (first | exact Bool.false_ne_true | (simp; done) | (simp; omega)))
    | ((refine And.intro (fun _ => ?_) (fun h => absurd h ?_)); rotate_left; · (first | exact (fun h => Bool.false_ne_true h.symm) | (simp; done) | (simp; omega)))))
section
theorem cell_eq (ns : List Int) (k : Nat) : F_l_cell [.fz (ns.map D.int), .int k] = .ok (.int (ns.getD k 0)) := Rs.eq (by
  refine rs_run ?_
  unfold Fb_l_cell
  array_get_dec
  refine ⟨fun h => ?_, fun h => ?_⟩
  · have h := of_decide_eq_true h
    rw [List.length_map] at h
    have hk : k < ns.length := by omega
    array_get_dec
    refine rs_ixF (atI_nat (by rw [List.getElem?_map, List.getElem?_eq_getElem hk]; rfl)) ?_
    array_get_dec
    rw [List.getD_eq_getElem?_getD, List.getElem?_eq_getElem hk]; rfl
  · have h := of_decide_eq_false h
    rw [List.length_map] at h
    have hk : ns.length ≤ k := by omega
    array_get_dec
    rw [List.getD_eq_getElem?_getD, List.getElem?_eq_none hk]; rfl)
theorem row_sp (c : Int) (ls : List Int) (hl : ∀ l ∈ ls, 0 < l ∧ l < 4611686018427387904) (hn : ls.length < 10000) : Rs (F_l_row [.int c, iL ls]) (fun d => ∃ vs, d = iL vs ∧ Fit vs ls) nE := by
  refine rs_run ?_
  unfold Fb_l_row
  array_get_dec
  refine ⟨fun hc => ?_, fun hc => ?_⟩
  · array_get_dec
    refine ss_each D.int ls (fun i r => ∃ vs rest y, Fit vs (ls.take i) ∧ r = [some (.int c), some (iL ls), some (iL vs), some (.int rest), y, none, none]) ?_ ?_ ?_ ?_
    · array_get_dec; rfl
    · exact ⟨[], _, none, trivial, rfl⟩
    · rintro i l r hi ⟨vs, rest, y, hf, rfl⟩
      have hl := hl l (List.mem_of_getElem? hi)
      have hlen := hf.len
      rw [List.length_take] at hlen
      unfold Lp_l_row_1
      array_get_dec
      refine ⟨vs ++ [rest % l], rest / l, some (.int l), ?_, by simp [iL]⟩
      rw [take_snoc hi]
      exact hf.snoc (Int.emod_nonneg _ (by omega)) (Int.emod_lt_of_pos _ hl.1)
    · rintro r ⟨vs, rest, y, hf, rfl⟩
      rw [List.take_length] at hf
      array_get_dec
      exact ⟨vs, rfl, hf⟩
  · array_get_dec
    refine ss_rng ls.length (fun i r => ∃ vs y z, Fit vs (ls.take i) ∧ r = [some (.int c), some (iL ls), some (iL vs), none, none, y, z]) ?_ (by omega) ?_ ?_ ?_
    · array_get_dec
      rw [List.length_map]
    · exact ⟨[], none, none, trivial, rfl⟩
    · rintro k r hk ⟨vs, y, z, hf, rfl⟩
      have hlen := hf.len
      rw [List.length_take] at hlen
      have hg : ls[k]? = some ls[k] := List.getElem?_eq_getElem hk
      have hl := hl ls[k] (List.getElem_mem hk)
      generalize ls[k] = l at hg hl
      unfold Lp_l_row_2
      array_get_dec
      refine rs_ixL (d := .int l) (atI_nat (by rw [List.getElem?_map, hg]; rfl)) ?_
      array_get_dec
      refine ⟨vs ++ [_], _, _, ?_, by simp [iL]; exact ⟨rfl, rfl, rfl⟩⟩
      rw [take_snoc hg]
      exact hf.snoc (Int.emod_nonneg _ (by omega)) (Int.emod_lt_of_pos _ hl.1)
    · rintro r ⟨vs, y, z, hf, rfl⟩
      rw [List.take_length] at hf
      array_get_dec
      exact ⟨vs, rfl, hf⟩
end
section
theorem row_of (c : Int) (ls : List Int) {Q : D → Prop} {E : Str → List Str → List D → Prop} (hl : ∀ l ∈ ls, 0 < l ∧ l < 4611686018427387904) (hn : ls.length < 10000) (q : ∀ vs, Fit vs ls → Q (iL vs)) : Rs (F_l_row [.int c, iL ls]) Q E := (row_sp c ls hl hn).imp fun d ⟨vs, e, h⟩ => by subst e; exact q vs h
theorem same_int (n : Nat) (i : Int) : F_l_same (n + 1) [.int i, .int i] = .ok (.bl true) := Rs.eq (by
  refine rs_run ?_
  unfold Fb_l_same
  sizeOf_list_dec
  simp)
theorem same_bl (n : Nat) (i : Bool) : F_l_same (n + 1) [.bl i, .bl i] = .ok (.bl true) := Rs.eq (by
  refine rs_run ?_
  unfold Fb_l_same
  sizeOf_list_dec
  simp)
theorem same_str (n : Nat) (l : List Nat) : F_l_same (n + 1) [.str (Sg l), .str (Sg l)] = .ok (.bl true) := Rs.eq (by
  refine rs_run ?_
  unfold Fb_l_same
  sizeOf_list_dec
  simp)
theorem same_lst (n : Nat) (ds : List D) (hl : ds.length ≤ 10000) (h : ∀ d ∈ ds, F_l_same n [d, d] = .ok (.bl true)) : F_l_same (n + 1) [.lst ds, .lst ds] = .ok (.bl true) := Rs.eq (by
  refine rs_run ?_
  unfold Fb_l_same
  sizeOf_list_dec
  refine ss_rng ds.length (fun i r => ∃ x, r = [some (.lst ds), some (.lst ds), x]) (by array_get_dec; rfl) (by omega) ⟨none, rfl⟩ ?_ ?_
  · rintro i r hi ⟨x, rfl⟩
    show Ss (Lp_l_same_1 (F_l_same n) [some (.lst ds), some (.lst ds), some (.int (i : Int))]) _ _ _ _ _
    unfold Lp_l_same_1
    array_get_dec
    refine rs_ixL (atI_nat (List.getElem?_eq_getElem hi)) ?_
    array_get_dec
    refine rs_ixL (atI_nat (List.getElem?_eq_getElem hi)) ?_
    array_get_dec
    refine Rs.of (h _ (List.getElem_mem hi)) ?_
    sizeOf_list_dec
    exact ⟨_, rfl⟩
  · rintro r ⟨x, rfl⟩
    array_get_dec
    rfl)
theorem same_tup (n : Nat) (ds : List D) (hl : ds.length ≤ 10000) (h : ∀ d ∈ ds, F_l_same n [d, d] = .ok (.bl true)) : F_l_same (n + 1) [.tup ds, .tup ds] = .ok (.bl true) := Rs.eq (by
  refine rs_run ?_
  unfold Fb_l_same
  sizeOf_list_dec
  refine ss_rng ds.length (fun i r => ∃ x, r = [some (.tup ds), some (.tup ds), x]) (by array_get_dec; rfl) (by omega) ⟨none, rfl⟩ ?_ ?_
  · rintro i r hi ⟨x, rfl⟩
    show Ss (Lp_l_same_1 (F_l_same n) [some (.tup ds), some (.tup ds), some (.int (i : Int))]) _ _ _ _ _
    unfold Lp_l_same_1
    array_get_dec
    refine rs_ixT (atI_nat (List.getElem?_eq_getElem hi)) ?_
    array_get_dec
    refine rs_ixT (atI_nat (List.getElem?_eq_getElem hi)) ?_
    array_get_dec
    refine Rs.of (h _ (List.getElem_mem hi)) ?_
    sizeOf_list_dec
    exact ⟨_, rfl⟩
  · rintro r ⟨x, rfl⟩
    array_get_dec
    rfl)
end
section
structure Pc where
  w : Int
  k : Nat
  tw : Int
  ns : List Int
  cs : List Int
deriving DecidableEq, Inhabited
structure Bk where
  h : Int
  ind : Int
  bef : Int
  kp : Bool
  ps : List Pc
deriving DecidableEq, Inhabited
def sBl : List Nat := [98, 108, 97, 110, 107]
def sJo : List Nat := [106, 111, 105, 110, 116]
def sEn : List Nat := [101, 110, 100]
def tieS (p : Pc) : List Nat := if p.k = 0 then sBl else if p.k = 1 then sJo else sEn
def tieL (p : Pc) : List D := if p.k = 2 then [.str (Sg (tieS p))] else [.str (Sg (tieS p)), .int p.tw]
def iT (ns : List Int) : D := .tup (ns.map D.int)
def pcD (p : Pc) : D := .tup [.int p.w, .tup (tieL p), iT p.ns, iT p.cs]
def bkD (b : Bk) : D := .tup [.int b.h, .int b.ind, .int b.bef, .bl b.kp, .tup (b.ps.map pcD)]
abbrev bL (bs : List Bk) : D := .lst (bs.map bkD)
structure PcOk (p : Pc) : Prop where
  w : 1 ≤ p.w ∧ p.w ≤ 2000
  k : p.k ≤ 2
  t : 0 ≤ p.tw ∧ p.tw ≤ 2000
  n : ∀ h ∈ p.ns, 1 ≤ h ∧ h ≤ 2000
  nl : p.ns.length ≤ 4
  c : ∀ h ∈ p.cs, 1 ≤ h ∧ h ≤ 2000
structure BkOk (b : Bk) : Prop where
  h : 1 ≤ b.h ∧ b.h ≤ 2000
  i : 0 ≤ b.ind ∧ b.ind ≤ 2000
  f : 0 ≤ b.bef ∧ b.bef ≤ 2000
  p : ∀ p ∈ b.ps, PcOk p
  e : ∃ qs q, b.ps = qs ++ [q] ∧ q.k = 2 ∧ ∀ x ∈ qs, x.k < 2
def pieces (bs : List Bk) : List Pc := bs.flatMap (·.ps)
def figs (bs : List Bk) : List Int := (pieces bs).flatMap (·.cs)
structure WOk (bs : List Bk) : Prop where
  b : ∀ b ∈ bs, BkOk b
  p : (pieces bs).length ≤ 40
  f : (figs bs).length ≤ 4
theorem pieces_app (xs ys : List Bk) : pieces (xs ++ ys) = pieces xs ++ pieces ys := List.flatMap_append
theorem figs_app (xs ys : List Bk) : figs (xs ++ ys) = figs xs ++ figs ys := by unfold figs; rw [pieces_app, List.flatMap_append]
theorem WOk.len {bs : List Bk} (h : WOk bs) : bs.length ≤ 40 := by
  have : ∀ xs : List Bk, (∀ b ∈ xs, BkOk b) → xs.length ≤ (pieces xs).length := fun xs => by
    induction xs with
    | nil => intro _; simp
    | cons b xs ih =>
      intro hb
      have h1 := ih fun z hz => hb z (List.mem_cons_of_mem _ hz)
      obtain ⟨qs, q, e, _⟩ := (hb b List.mem_cons_self).e
      have : 1 ≤ b.ps.length := by rw [e]; simp
      unfold pieces at h1 ⊢
      rw [List.flatMap_cons, List.length_append, List.length_cons]
      omega
  exact Nat.le_trans (this bs h.b) h.p
theorem WOk.sub {xs ys zs : List Bk} (h : WOk (xs ++ ys ++ zs)) : WOk ys := by
  have h1 := h.p
  have h2 := h.f
  rw [pieces_app, pieces_app, List.length_append, List.length_append] at h1
  rw [figs_app, figs_app, List.length_append, List.length_append] at h2
  exact ⟨fun b hb => h.b b (by simp [hb]), by omega, by omega⟩
theorem WOk.take {bs : List Bk} (h : WOk bs) (n : Nat) : WOk (bs.take n) := WOk.sub (xs := []) (zs := bs.drop n) (by rw [List.nil_append, List.take_append_drop]; exact h)
theorem WOk.drop {bs : List Bk} (h : WOk bs) (n : Nat) : WOk (bs.drop n) := WOk.sub (xs := bs.take n) (zs := []) (by rw [List.append_nil, List.take_append_drop]; exact h)
def flA : Nat → Nat → List Bk → List (Pc × Nat × Nat × Nat)
  | _, _, [] => []
  | a, s, b :: bs => b.ps.map (fun p => (p, a, s, s + b.ps.length)) ++ flA (a + 1) (s + b.ps.length) bs
abbrev flL (bs : List Bk) : List (Pc × Nat × Nat × Nat) := flA 0 0 bs
def spnD (t : Pc × Nat × Nat × Nat) : D := .tup [.int (t.2.1 : Int), .int (t.2.2.1 : Int), .int (t.2.2.2 : Int)]
theorem flA_1 : ∀ (bs : List Bk) (a s : Nat), (flA a s bs).map (·.1) = pieces bs
  | [], _, _ => rfl
  | b :: bs, a, s => by
    rw [flA, List.map_append, flA_1 bs]
    unfold pieces
    rw [List.flatMap_cons, List.map_map]
    congr 1
    exact List.map_id' _
theorem flA_len (bs : List Bk) (a s : Nat) : (flA a s bs).length = (pieces bs).length := by rw [← flA_1 bs a s, List.length_map]
theorem flA_app : ∀ (xs ys : List Bk) (a s : Nat), flA a s (xs ++ ys) = flA a s xs ++ flA (a + xs.length) (s + (pieces xs).length) ys
  | [], ys, a, s => rfl
  | x :: xs, ys, a, s => by
    rw [List.cons_append, flA, flA_app xs ys, flA, List.append_assoc, List.length_cons]
    unfold pieces
    rw [List.flatMap_cons, List.length_append, show a + 1 + xs.length = a + (xs.length + 1) from by omega, Nat.add_assoc]
theorem flL_snoc (xs : List Bk) (b : Bk) : flL (xs ++ [b]) = flL xs ++ b.ps.map fun p => (p, xs.length, (pieces xs).length, (pieces xs).length + b.ps.length) := by
  rw [flL, flA_app, flA, flA, List.append_nil, Nat.zero_add, Nat.zero_add]
/-- what is known of the piece i -/
structure At (bs : List Bk) (i : Nat) (p : Pc) (a s e : Nat) (b : Bk) : Prop where
  d : ∃ xs ys, bs = xs ++ b :: ys ∧ a = xs.length ∧ s = (pieces xs).length
  lo : s ≤ i
  hi : i < e
  e : e = s + b.ps.length
  q : b.ps[i - s]? = some p
section
variable {bs : List Bk} {i : Nat} {p : Pc} {a s e : Nat} {b : Bk}
theorem pieces_cons (b : Bk) (ys : List Bk) : pieces (b :: ys) = b.ps ++ pieces ys := List.flatMap_cons
theorem At.bb (h : At bs i p a s e b) : bs[a]? = some b := by
  obtain ⟨xs, ys, rfl, rfl, rfl⟩ := h.d
  rw [List.getElem?_append_right (Nat.le_refl _), Nat.sub_self]
  rfl
theorem At.mem (h : At bs i p a s e b) : b ∈ bs := List.mem_of_getElem? h.bb
end
end
section
def galD (bs : List Bk) : D := .obj "Galley" ["blocks", "spans", "all_pieces", "all_figures"] [bL bs, .lst ((flL bs).map spnD), .lst ((pieces bs).map pcD), iL (figs bs)]
theorem lc_id {α : Type} (g : α → D) (n : Nat) (r : Rho) (xs : List α) (h : n < r.length) : lcLoop (tgN n) dYes (dVar n) r (xs.map g) = .ok (xs.map g) := lc_mapX g g xs fun x _ => ⟨r.set n (some (g x)), rfl, rfl, by
  unfold dVar
  rw [List.getElem?_set_self h]
  rfl⟩
theorem rs_ixc {ds : List D} (k : Nat) {d : D} {Q : D → Prop} {E : Str → List Str → List D → Prop} (h : ds[k]? = some d) (q : Q d) : Rs (ixD (.tup ds) (.int (k : Int))) Q E := rs_ixT (atI_nat h) q
/-- a list of blocks, or the empty tuple -/
def BdOk (bs : List Bk) (bd : D) : Prop := bd = bL bs ∨ (bs = [] ∧ bd = .kt [])
theorem rs_itBd {bs : List Bk} {bd : D} (h : BdOk bs bd) {Q : List D → Prop} {E : Str → List Str → List D → Prop} (q : Q (bs.map bkD)) : Rs (itemsX bd) Q E := by
  rcases h with rfl | ⟨rfl, rfl⟩ <;> exact q
theorem rs_enBd {bs : List Bk} {bd : D} (h : BdOk bs bd) {Q : List D → Prop} {E : Str → List Str → List D → Prop} (q : Q (numd 0 (bs.map bkD))) : Rs (enumX bd) Q E := by
  rcases h with rfl | ⟨rfl, rfl⟩ <;> exact q
theorem rs_liBd {bs : List Bk} {bd : D} (h : BdOk bs bd) {Q : D → Prop} {E : Str → List Str → List D → Prop} (q : Q (bL bs)) : Rs (g1 listD [bd]) Q E := by
  rcases h with rfl | ⟨rfl, rfl⟩ <;> exact q
theorem pcs_eq (bs : List Bk) {bd : D} (hbd : BdOk bs bd) (hl : (pieces bs).length ≤ 1000) : F_pieces_in [bd] = .ok (.lst ((pieces bs).map pcD)) := Rs.eq (by
  refine rs_run ?_
  unfold Fb_pieces_in
  array_get_dec
  have e : (pieces bs).map pcD = bs.flatMap fun b => b.ps.map pcD := by unfold pieces; rw [List.map_flatMap]
  rw [e]
  refine rs_lc2 bkD (fun b => b.ps.map pcD) bs ?_ ?_ ?_ rfl
  · exact rs_it (rs_var rfl (rs_itBd hbd rfl))
  · intro b _
    refine ⟨_, rfl, ?_⟩
    array_get_dec
    refine rs_ixc (ds := [.int b.h, .int b.ind, .int b.bef, .bl b.kp, .tup (b.ps.map pcD)]) 4 rfl ?_
    array_get_dec
    exact lc_id pcD 2 _ _ (by simp [wipeR, startR])
  · rw [← e, List.length_map]
    exact Nat.le_trans (by omega) sz5)
theorem figs_eq (bs : List Bk) {bd : D} (hbd : BdOk bs bd) (hl : (pieces bs).length ≤ 1000) (hf : (figs bs).length ≤ 1000) : F_figures_in [bd] = .ok (iL (figs bs)) := Rs.eq (by
  refine rs_run ?_
  unfold Fb_figures_in
  array_get_dec
  have e : (figs bs).map D.int = (pieces bs).flatMap fun p => p.cs.map D.int := by unfold figs; rw [List.map_flatMap]
  rw [iL, e]
  refine rs_lc2 pcD (fun p => p.cs.map D.int) (pieces bs) ?_ ?_ ?_ rfl
  · array_get_dec
    exact Rs.of (pcs_eq bs hbd hl) (rs_itsL rfl)
  · intro p _
    refine ⟨_, rfl, ?_⟩
    array_get_dec
    refine rs_ixc (ds := [.int p.w, .tup (tieL p), iT p.ns, iT p.cs]) 3 rfl ?_
    unfold iT
    array_get_dec
    exact lc_id D.int 2 _ _ (by simp [wipeR, startR])
  · rw [← e, List.length_map]
    exact Nat.le_trans (by omega) sz5)
theorem flat_rep {α : Type} (n : Nat) (x : α) : (List.replicate n [x]).flatten = List.replicate n x := by
  induction n with
  | zero => rfl
  | succ n ih => rw [List.replicate_succ, List.flatten_cons, ih]; rfl
theorem numd_inv : ∀ (ds : List D) (n i : Nat) (e : D), (numd n ds)[i]? = some e → ∃ d, ds[i]? = some d ∧ e = .tup [.int ((n + i : Nat) : Int), d]
  | [], n, i, e, h => by simp [numd] at h
  | d :: ds, n, 0, e, h => ⟨d, rfl, by simpa [numd] using h.symm⟩
  | d :: ds, n, i + 1, e, h => by
    obtain ⟨x, h1, h2⟩ := numd_inv ds (n + 1) i e (by simpa [numd] using h)
    exact ⟨x, by simpa using h1, by rw [h2, show n + 1 + i = n + (i + 1) from by omega]⟩
theorem pieces_take_le (bs : List Bk) (n : Nat) : (pieces (bs.take n)).length ≤ (pieces bs).length := by
  conv => rhs; rw [← List.take_append_drop n bs]
  rw [pieces_app, List.length_append]
  omega
theorem spans_eq (bs : List Bk) {bd : D} (hbd : BdOk bs bd) (hl : (pieces bs).length ≤ 1000) (hb : bs.length ≤ 1000) : F_spans_in [bd] = .ok (.lst ((flL bs).map spnD)) := Rs.eq (by
  refine rs_run ?_
  unfold Fb_spans_in
  array_get_dec
  refine ss_for (fun i r => ∃ x2 x3 x4 x5, r = [some bd, some (.lst ((flL (bs.take i)).map spnD)), x2, x3, x4, x5]) ?_
  refine rs_it (rs_var rfl (rs_enBd hbd ?_))
  refine ⟨⟨none, none, none, none, rfl⟩, ?_, ?_⟩
  · rintro i d r hd ⟨x2, x3, x4, x5, rfl⟩
    obtain ⟨d, hd2, rfl⟩ := numd_inv _ _ _ _ hd
    rw [List.getElem?_map, Option.map_eq_some_iff] at hd2
    obtain ⟨b, hb, rfl⟩ := hd2
    have hlen : i < bs.length := (List.getElem?_eq_some_iff.mp hb).1
    have ht : (bs.take i).length = i := by rw [List.length_take]; omega
    have h1 := pieces_take_le bs (i + 1)
    rw [take_snoc hb, pieces_app, pieces_cons, List.length_append, List.length_append] at h1
    refine ⟨_, rfl, ?_⟩
    unfold Lp_spans_in_1
    refine ss_seq (ss_cut (fun z => z = [some bd, some (.lst ((flL (bs.take i)).map spnD)), some (.int (i : Int)), some (bkD b), some (.int ((pieces (bs.take i)).length : Int)), x5]) ?_ ?_)
    · array_get_dec
      rw [List.length_map, flA_len, Nat.zero_add]
      rfl
    rintro _ rfl
    refine ss_seq (ss_cut (fun z => z = [some bd, some (.lst ((flL (bs.take i)).map spnD)), some (.int (i : Int)), some (bkD b), some (.int ((pieces (bs.take i)).length : Int)), some (.int (((pieces (bs.take i)).length + b.ps.length : Nat) : Int))]) ?_ ?_)
    · array_get_dec
      refine rs_ixc (ds := [.int b.h, .int b.ind, .int b.bef, .bl b.kp, .tup (b.ps.map pcD)]) 4 rfl ?_
      array_get_dec
      rw [List.length_map]
      rfl
    rintro _ rfl
    refine ss_ext rfl ?_
    array_get_dec
    refine rs_ixc (ds := [.int b.h, .int b.ind, .int b.bef, .bl b.kp, .tup (b.ps.map pcD)]) 4 rfl ?_
    array_get_dec
    rw [List.length_map]
    refine rs_mulL ⟨by omega, by omega, ?_⟩ ?_
    · simp only [List.length_cons, List.length_nil, Int.toNat_natCast]
      exact Nat.le_trans (by omega) sz5
    rw [Int.toNat_natCast, flat_rep]
    refine rs_asL (And.intro ?_ ?_)
    · rw [List.length_map, flA_len, List.length_replicate]
      exact Nat.le_trans (by omega) sz5
    · rw [take_snoc hb, flL_snoc, List.map_append, List.map_map, ht]
      have e : (b.ps.map (spnD ∘ fun p => (p, i, (pieces (bs.take i)).length, (pieces (bs.take i)).length + b.ps.length))) = List.replicate b.ps.length (.tup [.int (i : Int), .int ((pieces (bs.take i)).length : Int), .int (((pieces (bs.take i)).length + b.ps.length : Nat) : Int)]) := by
        rw [← List.map_const']; rfl
      rw [e]
      exact ⟨_, _, _, _, rfl⟩
  · rintro r ⟨x2, x3, x4, x5, rfl⟩
    rw [numd_len, List.length_map, List.take_length]
    array_get_dec
    rfl)
theorem ginitX (bs : List Bk) {bd : D} (hbd : BdOk bs bd) (h : WOk bs) : F_Galley_init [bd] = .ok (galD bs) := Rs.eq (by
  have h1 := h.p
  have h2 := h.f
  refine rs_runI ?_
  unfold Fb_Galley_init
  refine ss_seq (ss_cut (fun z => z = [some (.obj "Galley" [] []), some bd, some (.lst ((pieces bs).map pcD)), some (iL (figs bs))]) ?_ ?_)
  · array_get_dec
    refine Rs.of (pcs_eq bs hbd (by omega)) ?_
    array_get_dec
    refine Rs.of (figs_eq bs hbd (by omega) (by omega)) ?_
    rfl
  rintro _ rfl
  refine ss_seq (ss_cut (fun z => z = [some (.obj "Galley" [] []), some bd, some (.lst ((pieces bs).map pcD)), some (iL (figs bs))]) ?_ ?_)
  · array_get_dec
    refine ⟨fun z => ?_, fun _ => rfl⟩
    have := of_decide_eq_true z
    rw [List.length_map] at this
    omega
  rintro _ rfl
  refine ss_seq (ss_cut (fun z => z = [some (.obj "Galley" [] []), some bd, some (.lst ((pieces bs).map pcD)), some (iL (figs bs))]) ?_ ?_)
  · array_get_dec
    refine ⟨fun z => ?_, fun _ => rfl⟩
    have := of_decide_eq_true z
    rw [List.length_map] at this
    omega
  rintro _ rfl
  refine ss_seq (ss_fst (ns := []) (vs := []) ?_)
  refine rs_call (rs_cons (rs_var rfl (rs_nil (rs_liBd hbd ?_))))
  refine ⟨rfl, by decide, ?_⟩
  refine ss_seq (ss_fst (ns := ["blocks"]) (vs := [bL bs]) ?_)
  array_get_dec
  refine Rs.of (spans_eq bs hbd (by omega) (Nat.le_trans h.len (by omega))) ⟨rfl, by decide, ?_⟩
  refine ss_seq (ss_fst (ns := ["blocks", "spans"]) (vs := [bL bs, .lst ((flL bs).map spnD)]) ?_)
  array_get_dec
  refine ⟨rfl, by decide, ?_⟩
  refine ss_fst (ns := ["blocks", "spans", "all_pieces"]) (vs := [bL bs, .lst ((flL bs).map spnD), .lst ((pieces bs).map pcD)]) ?_
  array_get_dec
  exact ⟨rfl, by decide, _, rfl, rfl⟩)
theorem ginit0 : F_Galley_init [.kt []] = .ok (galD []) := ginitX [] (.inr ⟨rfl, rfl⟩) ⟨fun b hb => (by cases hb), (by simp [pieces]), (by simp [figs, pieces])⟩
theorem glen (bs : List Bk) : F_Galley_len [galD bs] = .ok (.int ((pieces bs).length : Int)) := Rs.eq (by
  refine rs_run ?_
  unfold Fb_Galley_len
  array_get_dec
  refine rs_fld (d := .lst ((pieces bs).map pcD)) rfl ?_
  array_get_dec
  rw [List.length_map])
end
section
structure Cd {α : Type} [DecidableEq α] (P : α → Prop) (f : α → D) (n : Nat) (py : α → PyData) : Prop where
  e : ∀ a, P a → toPy (f a) = some (py a)
  l : ∀ a, P a → PyData.canLay0 (py a) = true ∧ PyData.depth (py a) ≤ n
  q : ∀ a b, P a → P b → PyData.eqv (py a) (py b) = decide (a = b)
theorem beq_dec {α : Type} [DecidableEq α] (a b : α) : (a == b) = decide (a = b) := rfl
theorem cd_int : Cd (fun _ => True) D.int 0 PyData.int := ⟨fun _ _ => by simp [toPy], fun _ _ => by simp [PyData.canLay0, PyData.depth], fun a b _ _ => by simp [PyData.eqv, beq_dec]⟩
section
variable {α β γ δ ε : Type} [DecidableEq α] [DecidableEq β] [DecidableEq γ] [DecidableEq δ] [DecidableEq ε] {P : α → Prop} {R : β → Prop} {T : γ → Prop} {U : δ → Prop} {f : α → D} {g : β → D} {h : γ → D} {k : δ → D} {n : Nat} {py : α → PyData} {pz : β → PyData} {pw : γ → PyData} {px : δ → PyData}
theorem Cd.all (c : Cd P f n py) : ∀ xs : List α, (∀ x ∈ xs, P x) → toPyL (xs.map f) = some (xs.map py) ∧ PyData.canLayAll0 (xs.map py) = true ∧ PyData.depthAll (xs.map py) ≤ n
  | [], _ => ⟨by simp [toPyL], by simp [PyData.canLayAll0], by simp [PyData.depthAll]⟩
  | x :: xs, hx => by
    obtain ⟨h1, h2, h3⟩ := c.all xs fun y hy => hx y (List.mem_cons_of_mem _ hy)
    have hp := hx x List.mem_cons_self
    refine ⟨by rw [List.map_cons, toPyL, h1, c.e x hp]; rfl, ?_, ?_⟩
    · rw [List.map_cons, PyData.canLayAll0, h2, (c.l x hp).1]; rfl
    · rw [List.map_cons, PyData.depthAll]
      exact Nat.max_le.mpr ⟨(c.l x hp).2, h3⟩
theorem Cd.eqa (c : Cd P f n py) : ∀ xs ys : List α, (∀ x ∈ xs, P x) → (∀ x ∈ ys, P x) → PyData.eqvAll (xs.map py) (ys.map py) = decide (xs = ys)
  | [], [], _, _ => by simp [PyData.eqvAll]
  | [], _ :: _, _, _ => by simp [PyData.eqvAll]
  | _ :: _, [], _, _ => by simp [PyData.eqvAll]
  | x :: xs, y :: ys, hx, hy => by
    rw [List.map_cons, List.map_cons, PyData.eqvAll, c.q x y (hx x List.mem_cons_self) (hy y List.mem_cons_self), c.eqa xs ys (fun z hz => hx z (List.mem_cons_of_mem _ hz)) fun z hz => hy z (List.mem_cons_of_mem _ hz)]
    by_cases h1 : x = y <;> by_cases h2 : xs = ys <;> simp [h1, h2]
theorem cd_tup (c : Cd P f n py) : Cd (fun xs : List α => ∀ x ∈ xs, P x) (fun xs => D.tup (xs.map f)) (n + 1) (fun xs => PyData.tuple (xs.map py)) := ⟨fun xs hx => by rw [toPy, (c.all xs hx).1]; rfl,
  fun xs hx => ⟨by rw [PyData.canLay0]; exact (c.all xs hx).2.1, by rw [PyData.depth]; exact Nat.succ_le_succ (c.all xs hx).2.2⟩, fun xs ys hx hy => by rw [PyData.eqv, c.eqa xs ys hx hy]⟩
theorem Cd.comp (c : Cd P f n py) (φ : β → α) (hi : ∀ a b, φ a = φ b → a = b) : Cd (fun b => P (φ b)) (fun b => f (φ b)) n (fun b => py (φ b)) := ⟨fun b hb => c.e _ hb, fun b hb => c.l _ hb, fun a b ha hb => by
  rw [c.q _ _ ha hb]
  by_cases h : a = b
  · subst h; simp
  · rw [decide_eq_false h, decide_eq_false fun z => h (hi _ _ z)]⟩
theorem toPy2 {a b : D} {p q : PyData} (h1 : toPy a = some p) (h2 : toPy b = some q) : toPy (.tup [a, b]) = some (.tuple [p, q]) := by
  rw [toPy, toPyL, toPyL, toPyL, h1, h2]; rfl
theorem cd_p2 (c : Cd P f n py) (d : Cd R g n pz) : Cd (fun p : α × β => P p.1 ∧ R p.2) (fun p => D.tup [f p.1, g p.2]) (n + 1) (fun p => .tuple [py p.1, pz p.2]) := ⟨fun p hp => toPy2 (c.e _ hp.1) (d.e _ hp.2), fun p hp => by
  have h1 := c.l _ hp.1
  have h2 := d.l _ hp.2
  refine ⟨by simp [PyData.canLay0, PyData.canLayAll0, h1.1, h2.1], ?_⟩
  simp only [PyData.depth, PyData.depthAll]
  omega, fun p q hp hq => by
  simp only [PyData.eqv, PyData.eqvAll, c.q _ _ hp.1 hq.1, d.q _ _ hp.2 hq.2]
  by_cases h1 : p.1 = q.1 <;> by_cases h2 : p.2 = q.2 <;> simp [h1, h2, Prod.ext_iff]⟩
theorem Cd.up {m : Nat} (c : Cd P f n py) (hm : n ≤ m) : Cd P f m py := ⟨c.e, fun a ha => ⟨(c.l a ha).1, Nat.le_trans (c.l a ha).2 hm⟩, c.q⟩
end
end
section
def Gs (x : List D × SR) (N : List D → Rho → Prop) : Prop := match x with
  | (ys, .nx r) => N ys r
  | _ => False
theorem Gs.imp {x : List D × SR} {N N' : List D → Rho → Prop} (h : Gs x N) (k : ∀ ys r, N ys r → N' ys r) : Gs x N' := by
  obtain ⟨ys, o⟩ := x
  cases o with
  | nx r => exact k _ _ h
  | _ => exact h.elim
theorem gs_seq2 {F K : Rho → List D × SR} {r : Rho} {N : List D → Rho → Prop} (h : Gs (F r) fun ys r' => Gs (K r') fun zs r'' => N (ys ++ zs) r'') : Gs (seqG F K r) N := by
  unfold seqG
  cases e : F r with
  | mk ys o =>
    rw [e] at h
    cases o with
    | nx r' =>
      have h : Gs (K r') fun zs r'' => N (ys ++ zs) r'' := h
      dsimp only
      cases e2 : K r' with
      | mk zs o2 =>
        rw [e2] at h
        cases o2 with
        | nx r'' => exact h
        | _ => exact h.elim
    | _ => exact h.elim
theorem gs_nil2 {r : Rho} {N : List D → Rho → Prop} (h : N [] r) : Gs (nilG r) N := h
theorem gs_yield2 {G : List Ow} {f : Rho → Res D} {r : Rho} {N : List D → Rho → Prop} (h : Rs (f r) (fun d => ownsOk G r = true ∧ N [d] r) nE) : Gs (yieldG G f r) N := by
  obtain ⟨d, e, h1, h2⟩ := h.get
  unfold yieldG liftG
  rw [e]
  dsimp only
  rw [if_pos h1]
  exact h2
theorem gs_if2 {t : Rho → Res Bool} {F K : Rho → List D × SR} {r : Rho} {N : List D → Rho → Prop} (h : Rs (t r) (fun b => (b = true → Gs (F r) N) ∧ (b = false → Gs (K r) N)) nE) : Gs (ifG t F K r) N := by
  obtain ⟨b, e, h1, h2⟩ := h.get
  unfold ifG liftG
  rw [e]
  cases b with
  | true => exact h1 rfl
  | false => exact h2 rfl
theorem rs_runG {n : Nat} {Fb : Rho → List D × SR} {ds : List D} {Q : List D → Prop} {E : Str → List Str → List D → Prop} (h : Gs (Fb (startR n ds)) fun ys _ => Q ys) : Rs (runGF n Fb ds) Q E := by
  unfold runGF
  cases e : Fb (startR n ds) with
  | mk ys o =>
    rw [e] at h
    cases o with
    | nx r => exact h
    | _ => exact h.elim
end
section
def sm {α : Type} (l : List α) (g : α → Nat) : Nat := (l.map g).sum
theorem sm_nil {α : Type} (g : α → Nat) : sm [] g = 0 := rfl
theorem sm_cons {α : Type} (x : α) (l : List α) (g : α → Nat) : sm (x :: l) g = g x + sm l g := by unfold sm; rw [List.map_cons, List.sum_cons]
theorem sm_app {α : Type} (l k : List α) (g : α → Nat) : sm (l ++ k) g = sm l g + sm k g := by unfold sm; rw [List.map_append, List.sum_append]
theorem sm_congr {α : Type} {g h : α → Nat} : ∀ {l : List α}, (∀ x ∈ l, g x = h x) → sm l g = sm l h
  | [], _ => rfl
  | x :: l, e => by rw [sm_cons, sm_cons, e x List.mem_cons_self, sm_congr fun y hy => e y (List.mem_cons_of_mem _ hy)]
theorem sm_add {α : Type} (g h : α → Nat) : ∀ l : List α, sm l (fun x => g x + h x) = sm l g + sm l h
  | [] => rfl
  | x :: l => by rw [sm_cons, sm_cons, sm_cons, sm_add g h l]; omega
theorem sm_mul {α : Type} (n : Nat) (g : α → Nat) : ∀ l : List α, sm l (fun x => n * g x) = n * sm l g
  | [] => rfl
  | x :: l => by rw [sm_cons, sm_cons, sm_mul n g l, Nat.mul_add]
theorem sm_swap {α β : Type} (g : α → β → Nat) : ∀ (l : List α) (k : List β), sm l (fun x => sm k (g x)) = sm k fun y => sm l fun x => g x y
  | [], k => by
    rw [sm_nil]
    induction k with
    | nil => rfl
    | cons y k ih => rw [sm_cons, ← ih]; rfl
  | x :: l, k => by
    rw [sm_cons, sm_swap g l k, ← sm_add]
    exact sm_congr fun y _ => (sm_cons x l fun x => g x y).symm
theorem sm_filter {α : Type} (p : α → Bool) (g : α → Nat) : ∀ l : List α, sm (l.filter p) g = sm l fun x => if p x = true then g x else 0
  | [] => rfl
  | x :: l => by
    rw [sm_cons, List.filter_cons]
    by_cases h : p x = true
    · rw [if_pos h, if_pos h, sm_cons, sm_filter p g l]
    · rw [if_neg h, if_neg h, sm_filter p g l, Nat.zero_add]
theorem sm_const {α : Type} (n : Nat) : ∀ l : List α, sm l (fun _ => n) = l.length * n
  | [] => by rw [sm_nil, List.length_nil, Nat.zero_mul]
  | x :: l => by rw [sm_cons, sm_const n l, List.length_cons, Nat.add_mul, Nat.one_mul, Nat.add_comm]
theorem len_flat {α β : Type} (f : α → List β) : ∀ l : List α, (l.flatMap f).length = sm l fun x => (f x).length
  | [] => rfl
  | x :: l => by rw [List.flatMap_cons, List.length_append, len_flat f l, sm_cons]
theorem sm_flat {α β : Type} (f : α → List β) (g : β → Nat) : ∀ l : List α, sm (l.flatMap f) g = sm l fun x => sm (f x) g
  | [] => rfl
  | x :: l => by rw [List.flatMap_cons, sm_app, sm_flat f g l, sm_cons]
theorem sm_map {α β : Type} (f : α → β) (g : β → Nat) (l : List α) : sm (l.map f) g = sm l fun x => g (f x) := by
  unfold sm; rw [List.map_map]; rfl
theorem sm_le {α : Type} {g : α → Nat} {n : Nat} : ∀ {l : List α}, (∀ x ∈ l, g x ≤ n) → sm l g ≤ l.length * n
  | [], _ => Nat.zero_le _
  | x :: l, h => by
    rw [sm_cons, List.length_cons, Nat.add_mul, Nat.one_mul, Nat.add_comm]
    exact Nat.add_le_add (sm_le fun y hy => h y (List.mem_cons_of_mem _ hy)) (h x List.mem_cons_self)
def rowsL (n : Nat) : Nat → List (List Nat)
  | 0 => []
  | k + 1 => (List.range n).flatMap fun i => [i] :: (rowsL n k).map (i :: ·)
abbrev Tl := List (Nat × List Nat)
section
variable (m : Nat → Nat) (fo : Nat → List Nat)
def tlF : Nat → List Nat → Nat → List Tl
  | 0, _, _ => []
  | g + 1, fs, L => fs.flatMap fun c => (rowsL (m c) L).flatMap fun s => if s.length = L then [[(c, s)]] else (tlF g (fo c) (L - s.length)).map ((c, s) :: ·)
/-- what is known of a row -/
theorem rows_in {n : Nat} : ∀ {k : Nat} {s : List Nat}, s ∈ rowsL n k → s ≠ [] ∧ s.length ≤ k ∧ ∀ x ∈ s, x < n
  | 0, s, h => by simp [rowsL] at h
  | k + 1, s, h => by
    unfold rowsL at h
    obtain ⟨i, hi, h⟩ := List.mem_flatMap.mp h
    have hi := List.mem_range.mp hi
    rcases List.mem_cons.mp h with h | h
    · subst h
      exact ⟨by simp, by simp, fun x hx => by rw [List.mem_singleton.mp hx]; exact hi⟩
    · obtain ⟨t, ht, rfl⟩ := List.mem_map.mp h
      obtain ⟨h1, h2, h3⟩ := rows_in ht
      refine ⟨by simp, by rw [List.length_cons]; omega, fun x hx => ?_⟩
      rcases List.mem_cons.mp hx with e | e
      · rw [e]; exact hi
      · exact h3 x e
/-- a telling that may be -/
def VTl : List Nat → Tl → Prop
  | _, [] => True
  | fs, (c, s) :: T => c ∈ fs ∧ s ≠ [] ∧ (∀ x ∈ s, x < m c) ∧ VTl (fo c) T
def lenT (T : Tl) : Nat := sm T fun p => p.2.length
theorem tl_in : ∀ {g : Nat} {fs : List Nat} {L : Nat} {T : Tl}, 1 ≤ L → L ≤ g → T ∈ tlF m fo g fs L → T ≠ [] ∧ VTl m fo fs T ∧ lenT T = L
  | 0, _, _, _, h1, h2, _ => by omega
  | g + 1, fs, L, T, h1, h2, h => by
    unfold tlF at h
    obtain ⟨c, hc, h⟩ := List.mem_flatMap.mp h
    obtain ⟨s, hs, h⟩ := List.mem_flatMap.mp h
    obtain ⟨a1, a2, a3⟩ := rows_in hs
    have hpos : 1 ≤ s.length := List.length_pos_iff.mpr a1
    by_cases e : s.length = L
    · rw [if_pos e] at h
      rw [List.mem_singleton.mp h]
      refine ⟨by simp, ⟨hc, a1, a3, trivial⟩, ?_⟩
      unfold lenT
      rw [sm_cons, sm_nil]
      exact e
    · rw [if_neg e] at h
      obtain ⟨U, hU, rfl⟩ := List.mem_map.mp h
      obtain ⟨b1, b2, b3⟩ := tl_in (g := g) (by omega) (by omega) hU
      refine ⟨by simp, ⟨hc, a1, a3, b2⟩, ?_⟩
      unfold lenT at b3 ⊢
      rw [sm_cons, b3]
      dsimp only
      omega
def Vn : Nat → Nat → Nat
  | 0, _ => 1
  | k + 1, c => m c * Vn k c + sm (fo c) fun d => m d * Vn k d
theorem rows_sum (c : Nat) (w : Nat → Nat) (h0 : w 0 = 1) : ∀ k : Nat, (∀ j, 1 ≤ j → j ≤ k → w j = sm (fo c) fun d => m d * Vn m fo (j - 1) d) → (sm (rowsL (m c) (k + 1)) fun s => w (k + 1 - s.length)) = m c * Vn m fo k c
  | 0, _ => by
    unfold rowsL
    rw [sm_flat]
    have : (fun i : Nat => sm ([i] :: (rowsL (m c) 0).map (i :: ·)) fun s => w (0 + 1 - s.length)) = fun _ => 1 := by
      funext i
      rw [sm_cons]
      show w 0 + sm [] _ = 1
      rw [h0, sm_nil]
    rw [this, sm_const, List.length_range]
    rfl
  | k + 1, hw => by
    have ih := rows_sum c w h0 k fun j h1 h2 => hw j h1 (by omega)
    rw [rowsL, sm_flat]
    have : (fun i : Nat => sm ([i] :: (rowsL (m c) (k + 1)).map (i :: ·)) fun s => w (k + 1 + 1 - s.length)) = fun _ => w (k + 1) + m c * Vn m fo k c := by
      funext i
      rw [sm_cons, sm_map, ← ih]
      congr 1
      exact sm_congr fun s _ => by rw [List.length_cons]; congr 1; omega
    rw [this, sm_const, List.length_range, hw (k + 1) (by omega) (Nat.le_refl _), Vn, Nat.add_sub_cancel]
    congr 1
    exact Nat.add_comm _ _
theorem tl_len : ∀ (g : Nat) (fs : List Nat) (k : Nat), k + 1 ≤ g → (tlF m fo g fs (k + 1)).length = sm fs fun c => m c * Vn m fo k c
  | 0, _, _, h => by omega
  | g + 1, fs, k, h => by
    unfold tlF
    rw [len_flat]
    refine sm_congr fun c _ => ?_
    rw [len_flat]
    rw [← rows_sum m fo c (fun j => if j = 0 then 1 else sm (fo c) fun d => m d * Vn m fo (j - 1) d) rfl k (fun j h1 _ => if_neg (by omega))]
    refine sm_congr fun s hs => ?_
    obtain ⟨a1, a2, _⟩ := rows_in hs
    have hpos : 1 ≤ s.length := List.length_pos_iff.mpr a1
    by_cases e : s.length = k + 1
    · rw [if_pos e, if_pos (by omega)]
      rfl
    · rw [if_neg e, if_neg (by omega), List.length_map]
      have := tl_len g (fo c) (k + 1 - s.length - 1) (by omega)
      rw [show k + 1 - s.length - 1 + 1 = k + 1 - s.length from by omega] at this
      exact this
def Wn (many : Nat) (isF : Nat → Bool) (isO : Nat → Nat → Bool) : Nat → Nat → Nat
  | 0, c => if isF c = true then m c else 0
  | k + 1, c => (Wn many isF isO k c + sm (List.range many) fun o => if isO o c = true then Wn many isF isO k o else 0) * m c
theorem w_step {many : Nat} {isF : Nat → Bool} {isO : Nat → Nat → Bool} (hfo : ∀ o, fo o = (List.range many).filter (isO o)) (j k : Nat) : (sm (List.range many) fun c => Wn m many isF isO (j + 1) c * Vn m fo k c) = sm (List.range many) fun c => Wn m many isF isO j c * Vn m fo (k + 1) c := by
  have e1 : (sm (List.range many) fun c => Wn m many isF isO (j + 1) c * Vn m fo k c) = (sm (List.range many) fun c => Wn m many isF isO j c * (m c * Vn m fo k c)) + sm (List.range many) fun c => sm (List.range many) fun o => if isO o c = true then Wn m many isF isO j o * (m c * Vn m fo k c) else 0 := by
    rw [← sm_add]
    refine sm_congr fun c _ => ?_
    rw [Wn, Nat.mul_assoc, Nat.add_mul]
    congr 1
    rw [Nat.mul_comm, ← sm_mul]
    refine sm_congr fun o _ => ?_
    by_cases h : isO o c = true
    · rw [if_pos h, if_pos h, Nat.mul_comm]
    · rw [if_neg h, if_neg h, Nat.mul_zero]
  rw [e1, sm_swap, ← sm_add]
  refine sm_congr fun o _ => ?_
  rw [Vn, Nat.mul_add, hfo o, sm_filter, ← sm_mul]
  congr 1
  refine sm_congr fun c _ => ?_
  by_cases h : isO o c = true
  · rw [if_pos h, if_pos h]
  · rw [if_neg h, if_neg h, Nat.mul_zero]
theorem w_all {many : Nat} {isF : Nat → Bool} {isO : Nat → Nat → Bool} (hfo : ∀ o, fo o = (List.range many).filter (isO o)) : ∀ j k : Nat, (sm (List.range many) fun c => Wn m many isF isO j c * Vn m fo k c) = sm (List.range many) fun c => Wn m many isF isO 0 c * Vn m fo (j + k) c
  | 0, k => by rw [Nat.zero_add]
  | j + 1, k => by rw [w_step m fo hfo j k, w_all hfo j (k + 1), show j + (k + 1) = j + 1 + k from by omega]
/-- as many as the program's own count says -/
theorem tl_count {many : Nat} {isF : Nat → Bool} {isO : Nat → Nat → Bool} (hfo : ∀ o, fo o = (List.range many).filter (isO o)) (g k : Nat) (h : k + 1 ≤ g) : (tlF m fo g ((List.range many).filter isF) (k + 1)).length = sm (List.range many) (Wn m many isF isO k) := by
  rw [tl_len m fo g _ k h, sm_filter]
  have := w_all m fo (isF := isF) hfo k 0
  rw [Nat.add_zero] at this
  have e : (sm (List.range many) fun c => Wn m many isF isO k c * Vn m fo 0 c) = sm (List.range many) (Wn m many isF isO k) := sm_congr fun c _ => by rw [Vn, Nat.mul_one]
  rw [← e, this]
  refine sm_congr fun c _ => ?_
  rw [Wn]
  by_cases h : isF c = true
  · rw [if_pos h, if_pos h]
  · rw [if_neg h, if_neg h, Nat.zero_mul]
end
def ltS : List Nat → List Nat → Prop
  | [], _ :: _ => True
  | x :: xs, y :: ys => x < y ∨ (x = y ∧ ltS xs ys)
  | _, [] => False
def ltP (p q : Nat × List Nat) : Prop := p.1 < q.1 ∨ (p.1 = q.1 ∧ ltS p.2 q.2)
def ltT : Tl → Tl → Prop
  | p :: T, q :: U => ltP p q ∨ (p = q ∧ ltT T U)
  | _, _ => False
theorem rows_lt (n : Nat) : ∀ k : Nat, (rowsL n k).Pairwise ltS
  | 0 => List.Pairwise.nil
  | k + 1 => by
    unfold rowsL
    rw [List.pairwise_flatMap]
    refine ⟨fun i _ => List.pairwise_cons.mpr ⟨fun s hs => ?_, ?_⟩, ?_⟩
    · obtain ⟨t, ht, rfl⟩ := List.mem_map.mp hs
      obtain ⟨a1, _⟩ := rows_in ht
      refine .inr ⟨rfl, ?_⟩
      cases t with
      | nil => exact absurd rfl a1
      | cons x t => trivial
    · rw [List.pairwise_map]
      exact (rows_lt n k).imp fun h => .inr ⟨rfl, h⟩
    · refine (List.pairwise_lt_range (n := n)).imp fun {a b} h x hx y hy => ?_
      have hx : ∃ t, x = a :: t := by
        rcases List.mem_cons.mp hx with e | e
        · exact ⟨_, e⟩
        · obtain ⟨t, _, rfl⟩ := List.mem_map.mp e; exact ⟨t, rfl⟩
      have hy : ∃ t, y = b :: t := by
        rcases List.mem_cons.mp hy with e | e
        · exact ⟨_, e⟩
        · obtain ⟨t, _, rfl⟩ := List.mem_map.mp e; exact ⟨t, rfl⟩
      obtain ⟨t, rfl⟩ := hx
      obtain ⟨u, rfl⟩ := hy
      exact .inl h
theorem tl_lt (m : Nat → Nat) (fo : Nat → List Nat) (hfo : ∀ c, (fo c).Pairwise (· < ·)) : ∀ (g : Nat) (fs : List Nat) (L : Nat), fs.Pairwise (· < ·) → (tlF m fo g fs L).Pairwise ltT
  | 0, _, _, _ => List.Pairwise.nil
  | g + 1, fs, L, hf => by
    have hd : ∀ c s x, x ∈ (if s.length = L then [[(c, s)]] else (tlF m fo g (fo c) (L - s.length)).map ((c, s) :: ·)) → ∃ T, x = (c, s) :: T := fun c s x hx => by
      split at hx
      · exact ⟨[], List.mem_singleton.mp hx⟩
      · obtain ⟨T, _, rfl⟩ := List.mem_map.mp hx; exact ⟨T, rfl⟩
    unfold tlF
    rw [List.pairwise_flatMap]
    refine ⟨fun c _ => ?_, hf.imp fun {a b} h x hx y hy => ?_⟩
    · rw [List.pairwise_flatMap]
      refine ⟨fun s _ => ?_, (rows_lt (m c) L).imp fun {s u} h x hx y hy => ?_⟩
      · split
        · exact List.pairwise_singleton _ _
        · rw [List.pairwise_map]
          exact (tl_lt m fo hfo g (fo c) (L - s.length) (hfo c)).imp fun h => .inr ⟨rfl, h⟩
      · obtain ⟨T, rfl⟩ := hd c s x hx
        obtain ⟨U, rfl⟩ := hd c u y hy
        exact .inl (.inr ⟨rfl, h⟩)
    · obtain ⟨s, _, hx⟩ := List.mem_flatMap.mp hx
      obtain ⟨u, _, hy⟩ := List.mem_flatMap.mp hy
      obtain ⟨T, rfl⟩ := hd a s x hx
      obtain ⟨U, rfl⟩ := hd b u y hy
      exact .inl (.inl h)
end
section
section
variable {its : Rho → Res (List D)} {t : D → Rho → Res Rho} {F : Rho → List D × SR} {r : Rho} {N : List D → Rho → Prop}
theorem gs_loop {α : Type} (g : α → D) (out : α → List D) (I : Rho → Prop) : ∀ (xs : List α) (r : Rho), I r → (∀ x ∈ xs, ∀ r, I r → ∃ r1, t (g x) r = .ok r1 ∧ Gs (F r1) (fun ys r2 => ys = out x ∧ I r2)) → Gs (loopG t F (xs.map g) r) (fun ys r2 => ys = xs.flatMap out ∧ I r2)
  | [], r, h0, _ => ⟨rfl, h0⟩
  | x :: xs, r, h0, hs => by
    obtain ⟨r1, e1, h1⟩ := hs x List.mem_cons_self r h0
    rw [List.map_cons]
    unfold loopG
    rw [e1]
    dsimp only
    cases q : F r1 with
    | mk ys o =>
      rw [q] at h1
      cases o with
      | nx r2 =>
        obtain ⟨k1, k2⟩ := h1
        have ih := gs_loop g out I xs r2 k2 fun y hy => hs y (List.mem_cons_of_mem _ hy)
        dsimp only
        cases q2 : loopG t F (xs.map g) r2 with
        | mk zs o2 =>
          rw [q2] at ih
          cases o2 with
          | nx r3 =>
            obtain ⟨k3, k4⟩ := ih
            exact ⟨by rw [k1, k3, List.flatMap_cons], k4⟩
          | _ => exact ih.elim
      | _ => exact h1.elim
theorem gs_each {α : Type} (g : α → D) (out : α → List D) (xs : List α) (I : Rho → Prop) (h : Rs (its r) (fun ds => ds = xs.map g) nE) (h0 : I r) (hs : ∀ x ∈ xs, ∀ r, I r → ∃ r1, t (g x) r = .ok r1 ∧ Gs (F r1) (fun ys r2 => ys = out x ∧ I r2)) (hN : ∀ r, I r → N (xs.flatMap out) r) : Gs (forGG its t F r) N := by
  obtain ⟨ds, e, rfl⟩ := h.get
  unfold forGG liftG
  rw [e]
  exact (gs_loop g out I xs r h0 hs).imp fun ys r2 ⟨k1, k2⟩ => by rw [k1]; exact hN r2 k2
theorem rs_dGen {F : List D → Res (List D)} {fs : Rho → Res (List D)} {Q : List D → Prop} {E : Str → List Str → List D → Prop} (h : Rs (fs r) (fun ds => Rs (F ds) Q E) E) : Rs (dGen F fs r) Q E := Rs.bind h
theorem rs_methGA {n m : Str} {ns : List Str} {vs : List D} {f1 : Rho → Res D} {F : List D → Res (List D)} {fs : Rho → Res (List D)} {Q : List D → Prop} {E : Str → List Str → List D → Prop} (h1 : Rs (f1 r) (fun x => x = .obj n ns vs) E) (hm : m ∉ ns) (h : Rs (fs r) (fun ds => Rs (F (.obj n ns vs :: ds)) Q E) E) : Rs (dMethGA n m F f1 fs r) Q E := Rs.bind (h1.impE (fun x e => by
  subst e
  exact Rs.bind (rs_isObj hm (Rs.bind h))) fun _ _ _ z => z)
end
theorem flat_one {α β : Type} (f : α → β) : ∀ l : List α, (l.flatMap fun s => [f s]) = l.map f
  | [] => rfl
  | x :: l => by rw [List.flatMap_cons, flat_one f l]; rfl
abbrev natT (l : List Nat) : D := .tup (l.map fun (k : Nat) => .int (k : Int))
theorem nat_add (i : Nat) (s : List Nat) (h : s.length ≤ 1000) {Q : D → Prop} {E : Str → List Str → List D → Prop} (q : Q (natT (i :: s))) : Rs (addD (.tup [.int (i : Int)]) (natT s)) Q E := by
  refine rs_addT ?_ q
  rw [List.length_map, List.length_cons, List.length_nil]
  exact Nat.le_trans (m := 100000) (by omega) sz5
theorem rows_eq : ∀ (g n k : Nat), k + 1 ≤ g → g ≤ 100 → n ≤ 1000 → F_rows_below g [.int (n : Int), .int ((k + 1 : Nat) : Int)] = .ok ((rowsL n (k + 1)).map natT)
  | 0, _, _, h, _, _ => by omega
  | g + 1, n, k, hk, hg, hn => Rs.eq (by
    show Rs (runGF 4 (Fb_rows_below (F_rows_below g)) [.int (n : Int), .int ((k + 1 : Nat) : Int)]) _ _
    refine rs_runG ?_
    unfold Fb_rows_below
    show Gs (seqG _ _ [some (.int (n : Int)), some (.int ((k + 1 : Nat) : Int)), none, none]) _
    refine gs_seq2 (gs_each (fun i : Nat => D.int (0 + (i : Int))) (fun i => ([i] :: (rowsL n k).map (i :: ·)).map natT) (List.range n) (fun z => ∃ x2 x3, z = [some (.int (n : Int)), some (.int ((k + 1 : Nat) : Int)), x2, x3]) ?_ ⟨none, none, rfl⟩ ?_ ?_)
    · array_get_dec
      exact rs_rng1 (by omega) rfl
    · rintro i hi z ⟨x2, x3, rfl⟩
      refine ⟨_, rfl, ?_⟩
      show Gs (Gp_rows_below_2 (F_rows_below g) [some (.int (n : Int)), some (.int ((k + 1 : Nat) : Int)), some (.int (0 + (i : Int))), x3]) _
      rw [Int.zero_add]
      unfold Gp_rows_below_2
      refine gs_seq2 (gs_yield2 (rs_tup (rs_cons (rs_var rfl (rs_nil ⟨Nat.le_of_ble_eq_true rfl, rfl, ?_⟩)))))
      refine gs_seq2 (gs_if2 (rs_T (rs_op (rs_var rfl (rs_c (rs_gt (rs_asB ⟨fun c => ?_, fun c => ?_⟩)))))))
      · have hk1 : 1 ≤ k := by have := of_decide_eq_true c; omega
        refine gs_seq2 (gs_each natT (fun s => [natT (i :: s)]) (rowsL n k) (fun z => ∃ x3, z = [some (.int (n : Int)), some (.int ((k + 1 : Nat) : Int)), some (.int (i : Int)), x3]) ?_ ⟨x3, rfl⟩ ?_ ?_)
        · refine rs_dGen (rs_cons (rs_var rfl (rs_cons (rs_op (rs_var rfl (rs_c (rs_sub (rs_nil ?_))))))))
          obtain ⟨j, rfl⟩ : ∃ j, k = j + 1 := ⟨k - 1, by omega⟩
          rw [show ((j + 1 + 1 : Nat) : Int) - 1 = ((j + 1 : Nat) : Int) from by omega]
          exact Rs.of (rows_eq g n j (by omega) (by omega) hn) rfl
        · rintro s hs z ⟨x3, rfl⟩
          obtain ⟨_, a2, _⟩ := rows_in hs
          refine ⟨_, rfl, ?_⟩
          show Gs (Gp_rows_below_1 [some (.int (n : Int)), some (.int ((k + 1 : Nat) : Int)), some (.int (i : Int)), some (natT s)]) _
          unfold Gp_rows_below_1
          refine gs_seq2 (gs_yield2 (rs_op (rs_tup (rs_cons (rs_var rfl (rs_nil ⟨Nat.le_of_ble_eq_true rfl, rs_var rfl (nat_add i s (by omega) ⟨rfl, ?_⟩)⟩))))))
          exact ⟨rfl, ⟨_, rfl⟩⟩
        · rintro z ⟨x3, rfl⟩
          refine gs_nil2 (gs_nil2 ⟨?_, _, _, rfl⟩)
          rw [List.append_nil, List.append_nil, List.map_cons, List.map_map]
          show natT [i] :: (rowsL n k).flatMap (fun s => [natT (i :: s)]) = _
          rw [flat_one fun s => natT (i :: s)]
          rfl
      · have hk0 : k = 0 := by have := of_decide_eq_false c; omega
        subst hk0
        exact gs_nil2 (gs_nil2 ⟨rfl, _, _, rfl⟩)
    · rintro z ⟨x2, x3, rfl⟩
      refine gs_nil2 ?_
      rw [List.append_nil, rowsL, List.map_flatMap])
end
section
structure Cs where
  h : Int
  ind : Int
  bef : Int
  kp : Bool
  bl : Int
  hy : Int
  mn : List (List Int)
deriving Inhabited
def csD (c : Cs) : D := .tup [.int c.h, .int c.ind, .int c.bef, .bl c.kp, .int c.bl, .int c.hy, .tup (c.mn.map iT)]
def famD (cs : List Cs) (X : List Nat) (fo : List (List Nat)) : D := .obj "Family" ["cases", "firsts", "follows"] [.tup (cs.map csD), natT X, .tup (fo.map natT)]
abbrev mc (cs : List Cs) (c : Nat) : Nat := (cs.getD c default).mn.length
def fsF (many : Nat) (X : List Nat) : List Nat := (List.range many).filter fun d => decide (d ∈ X)
def foF (many : Nat) (fo : List (List Nat)) (c : Nat) : List Nat := fsF many (fo.getD c [])
def SubN (many : Nat) (X : List Nat) : Prop := X.length < 64 ∧ ∀ x ∈ X, x < many
structure FOk (cs : List Cs) (fo : List (List Nat)) : Prop where
  l : fo.length = cs.length
  s : ∀ X ∈ fo, SubN cs.length X
  m : ∀ c ∈ cs, c.mn.length ≤ 1000
theorem fsF_mem {many : Nat} {X : List Nat} (h : SubN many X) (d : Nat) : d ∈ fsF many X ↔ d ∈ X := by
  unfold fsF
  rw [List.mem_filter, decide_eq_true_eq, List.mem_range]
  exact ⟨fun z => z.2, fun z => ⟨h.2 d z, z⟩⟩
theorem fsF_lt (many : Nat) (X : List Nat) : (fsF many X).Pairwise (· < ·) := (List.pairwise_lt_range (n := many)).filter _
theorem set_eq {many : Nat} {X : List Nat} (h : SubN many X) : sortSetD (natT X) = .ok (.lst ((fsF many X).map fun (k : Nat) => D.int (k : Int))) := by
  have e1 : (X.map fun (k : Nat) => D.int (k : Int)) = (X.map fun (k : Nat) => (k : Int)).map D.int := by rw [List.map_map]; rfl
  have e2 : sortSet (X.map fun (k : Nat) => (k : Int)) = (fsF many X).map fun (k : Nat) => (k : Int) := by
    refine rising_eq (sortSet_lt _) ?_ fun k => ?_
    · rw [List.pairwise_map]
      exact (fsF_lt many X).imp fun z => by omega
    · rw [sortSet_mem, List.mem_map, List.mem_map]
      constructor
      · rintro ⟨x, hx, e⟩; exact ⟨x, (fsF_mem h x).mpr hx, e⟩
      · rintro ⟨x, hx, e⟩; exact ⟨x, (fsF_mem h x).mp hx, e⟩
  unfold natT sortSetD
  rw [e1]
  dsimp only
  rw [intsQ_map]
  dsimp only
  rw [if_pos (by rw [List.length_map]; exact h.1), e2, List.map_map]
  rfl
def blkT (p : Nat × List Nat) : D := .tup [.int (p.1 : Int), natT p.2]
def tlD (T : Tl) : D := .tup (T.map blkT)
theorem rs_cases {cs : List Cs} {X : List Nat} {fo : List (List Nat)} {Q : D → Prop} {E : Str → List Str → List D → Prop} (q : Q (.tup (cs.map csD))) : Rs (fldD "Family" "cases" (famD cs X fo)) Q E := rs_fld (d := .tup (cs.map csD)) rfl q
theorem rs_follows {cs : List Cs} {X : List Nat} {fo : List (List Nat)} {Q : D → Prop} {E : Str → List Str → List D → Prop} (q : Q (.tup (fo.map natT))) : Rs (fldD "Family" "follows" (famD cs X fo)) Q E := rs_fld (d := .tup (fo.map natT)) rfl q
theorem rs_case {cs : List Cs} {c : Nat} (hc : c < cs.length) {Q : D → Prop} {E : Str → List Str → List D → Prop} (q : Q (csD (cs.getD c default))) : Rs (ixD (.tup (cs.map csD)) (.int (c : Int))) Q E := rs_ixT (atI_nat (by rw [List.getElem?_map, List.getD_eq_getElem?_getD, List.getElem?_eq_getElem hc]; rfl)) q
theorem rs_menu {c : Cs} {Q : D → Prop} {E : Str → List Str → List D → Prop} (q : Q (.tup (c.mn.map iT))) : Rs (ixD (csD c) (.int 6)) Q E := rs_ixc (ds := [.int c.h, .int c.ind, .int c.bef, .bl c.kp, .int c.bl, .int c.hy, .tup (c.mn.map iT)]) 6 rfl q
theorem rs_fo {fo : List (List Nat)} {c : Nat} (hc : c < fo.length) {Q : D → Prop} {E : Str → List Str → List D → Prop} (q : Q (natT (fo.getD c []))) : Rs (ixD (.tup (fo.map natT)) (.int (c : Int))) Q E := rs_ixT (atI_nat (by rw [List.getElem?_map, List.getD_eq_getElem?_getD, List.getElem?_eq_getElem hc]; rfl)) q
theorem getD_mem {α : Type} {l : List α} {i : Nat} {d : α} (h : i < l.length) : l.getD i d ∈ l := by
  rw [List.getD_eq_getElem?_getD, List.getElem?_eq_getElem h]
  exact List.getElem_mem h
section
variable {cs : List Cs} {X0 : List Nat} {fo : List (List Nat)}
theorem tl_short (m : Nat → Nat) (f : Nat → List Nat) {g : Nat} {fs : List Nat} {L : Nat} {T : Tl} (h1 : 1 ≤ L) (h2 : L ≤ g) (h : T ∈ tlF m f g fs L) : T.length ≤ L := by
  obtain ⟨_, b, c⟩ := tl_in m f h1 h2 h
  rw [← c]
  have key : ∀ (fs : List Nat) (T : Tl), VTl m f fs T → T.length ≤ lenT T := fun fs T => by
    induction T generalizing fs with
    | nil => intro _; exact Nat.zero_le _
    | cons p T ih =>
      obtain ⟨c, s⟩ := p
      intro ⟨_, a1, _, a2⟩
      have := ih _ a2
      have hs : 1 ≤ s.length := List.length_pos_iff.mpr a1
      unfold lenT at this ⊢
      rw [sm_cons, List.length_cons]
      dsimp only
      omega
  exact key fs T b
theorem tells_eq (hf : FOk cs fo) : ∀ (g : Nat) (X : List Nat) (L : Nat), 1 ≤ L → L ≤ g → g ≤ 8 → SubN cs.length X → F_Family_tellings_from g [famD cs X0 fo, natT X, .int (L : Int)] = .ok ((tlF (mc cs) (foF cs.length fo) g (fsF cs.length X) L).map tlD)
  | 0, _, _, h1, h2, _, _ => by omega
  | g + 1, X, L, h1, h2, h3, hX => Rs.eq (by
    show Rs (runGF 6 (Fb_Family_tellings_from (F_Family_tellings_from g)) [famD cs X0 fo, natT X, .int (L : Int)]) _ _
    refine rs_runG ?_
    unfold Fb_Family_tellings_from
    show Gs (seqG _ _ [some (famD cs X0 fo), some (natT X), some (.int (L : Int)), none, none, none]) _
    refine gs_seq2 (gs_each (fun c : Nat => D.int (c : Int)) (fun c => ((rowsL (mc cs c) L).flatMap fun s => if s.length = L then [[(c, s)]] else (tlF (mc cs) (foF cs.length fo) g (foF cs.length fo c) (L - s.length)).map ((c, s) :: ·)).map tlD) (fsF cs.length X) (fun z => ∃ x3 x4 x5, z = [some (famD cs X0 fo), some (natT X), some (.int (L : Int)), x3, x4, x5]) ?_ ⟨none, none, none, rfl⟩ ?_ ?_)
    · exact rs_it (rs_un (rs_var rfl (Rs.of (set_eq hX) (rs_itsL rfl))))
    · rintro c hc z ⟨x3, x4, x5, rfl⟩
      have hcl : c < cs.length := hX.2 c ((fsF_mem hX c).mp hc)
      have hm : mc cs c ≤ 1000 := hf.m _ (getD_mem hcl)
      refine ⟨_, rfl, ?_⟩
      show Gs (Gp_Family_tellings_from_3 (F_Family_tellings_from g) [some (famD cs X0 fo), some (natT X), some (.int (L : Int)), some (.int (c : Int)), x4, x5]) _
      unfold Gp_Family_tellings_from_3
      obtain ⟨k, rfl⟩ : ∃ k, L = k + 1 := ⟨L - 1, by omega⟩
      refine gs_seq2 (gs_each natT (fun s => (if s.length = k + 1 then [[(c, s)]] else (tlF (mc cs) (foF cs.length fo) g (foF cs.length fo c) (k + 1 - s.length)).map ((c, s) :: ·)).map tlD) (rowsL (mc cs c) (k + 1)) (fun z => ∃ x4 x5, z = [some (famD cs X0 fo), some (natT X), some (.int ((k + 1 : Nat) : Int)), some (.int (c : Int)), x4, x5]) ?_ ⟨x4, x5, rfl⟩ ?_ ?_)
      · refine rs_dGen (rs_cons (rs_call (rs_cons (rs_op (rs_op (rs_un (rs_var rfl (rs_cases (rs_var rfl (rs_case hcl (rs_c (rs_menu (rs_nil (rs_lenT ?_))))))))))))))
        rw [List.length_map]
        exact rs_cons (rs_var rfl (rs_nil (Rs.of (rows_eq 8 (mc cs c) k (by omega) (by omega) hm) rfl)))
      · rintro s hs z ⟨x4, x5, rfl⟩
        obtain ⟨a1, a2, a3⟩ := rows_in hs
        have hpos : 1 ≤ s.length := List.length_pos_iff.mpr a1
        refine ⟨_, rfl, ?_⟩
        show Gs (Gp_Family_tellings_from_2 (F_Family_tellings_from g) [some (famD cs X0 fo), some (natT X), some (.int ((k + 1 : Nat) : Int)), some (.int (c : Int)), some (natT s), x5]) _
        unfold Gp_Family_tellings_from_2
        refine gs_seq2 (gs_if2 (rs_T (rs_op (rs_call (rs_cons (rs_var rfl (rs_nil (rs_lenT (rs_var rfl (rs_eqI (rs_asB ?_)))))))))))
        rw [List.length_map]
        by_cases e : s.length = k + 1
        · rw [if_pos e]
          refine ⟨fun _ => ?_, fun z => absurd (of_decide_eq_false z) (by omega)⟩
          exact gs_seq2 (gs_yield2 (rs_tup (rs_cons (rs_tup (rs_cons (rs_var rfl (rs_cons (rs_var rfl (rs_nil ⟨Nat.le_of_ble_eq_true rfl, rs_nil ⟨Nat.le_of_ble_eq_true rfl, rfl, gs_nil2 (gs_nil2 ⟨rfl, _, _, rfl⟩)⟩⟩)))))))))
        · rw [if_neg e]
          refine ⟨fun z => absurd (of_decide_eq_true z) (by omega), fun _ => ?_⟩
          have hY : SubN cs.length (fo.getD c []) := hf.s _ (getD_mem (by rw [hf.l]; exact hcl))
          refine gs_seq2 (gs_each tlD (fun T => [tlD ((c, s) :: T)]) (tlF (mc cs) (foF cs.length fo) g (foF cs.length fo c) (k + 1 - s.length)) (fun z => ∃ x5, z = [some (famD cs X0 fo), some (natT X), some (.int ((k + 1 : Nat) : Int)), some (.int (c : Int)), some (natT s), x5]) ?_ ⟨x5, rfl⟩ ?_ ?_)
          · refine rs_methGA (ns := ["cases", "firsts", "follows"]) (vs := [.tup (cs.map csD), natT X0, .tup (fo.map natT)]) (rs_var rfl rfl) (by decide) ?_
            refine rs_cons (rs_op (rs_un (rs_var rfl (rs_follows (rs_var rfl (rs_fo (by rw [hf.l]; exact hcl) (rs_cons (rs_op (rs_var rfl (rs_call (rs_cons (rs_var rfl (rs_nil (rs_lenT (rs_sub (rs_nil ?_))))))))))))))))
            rw [List.length_map, show ((k + 1 : Nat) : Int) - (s.length : Int) = ((k + 1 - s.length : Nat) : Int) from by omega]
            exact Rs.of (tells_eq hf g (fo.getD c []) (k + 1 - s.length) (by omega) (by omega) (by omega) hY) rfl
          · rintro T hT z ⟨x5, rfl⟩
            have hl := tl_short (mc cs) (foF cs.length fo) (by omega) (by omega) hT
            refine ⟨_, rfl, ?_⟩
            show Gs (Gp_Family_tellings_from_1 [some (famD cs X0 fo), some (natT X), some (.int ((k + 1 : Nat) : Int)), some (.int (c : Int)), some (natT s), some (tlD T)]) _
            unfold Gp_Family_tellings_from_1
            refine gs_seq2 (gs_yield2 (rs_op (rs_tup (rs_cons (rs_tup (rs_cons (rs_var rfl (rs_cons (rs_var rfl (rs_nil ⟨Nat.le_of_ble_eq_true rfl, rs_nil ⟨Nat.le_of_ble_eq_true rfl, rs_var rfl (rs_addT ?_ ⟨rfl, gs_nil2 ⟨rfl, ⟨_, rfl⟩⟩⟩)⟩⟩))))))))))
            rw [List.length_map, List.length_cons, List.length_nil]
            exact Nat.le_trans (m := 100000) (by omega) sz5
          · rintro z ⟨x5, rfl⟩
            refine gs_nil2 (gs_nil2 ⟨?_, _, _, rfl⟩)
            rw [List.append_nil, List.append_nil, flat_one fun T => tlD ((c, s) :: T), List.map_map]
            rfl
      · rintro z ⟨x4, x5, rfl⟩
        refine gs_nil2 ⟨?_, _, _, _, rfl⟩
        rw [List.append_nil, List.map_flatMap]
    · rintro z ⟨x3, x4, x5, rfl⟩
      refine gs_nil2 ?_
      rw [List.append_nil, tlF, List.map_flatMap])
theorem every_eq (hf : FOk cs fo) (X : List Nat) (L : Nat) (h1 : 1 ≤ L) (h2 : L ≤ 8) (hX : SubN cs.length X) : F_Family_every_telling [famD cs X fo, .int (L : Int)] = .ok ((tlF (mc cs) (foF cs.length fo) 8 (fsF cs.length X) L).map tlD) := Rs.eq (by
  refine rs_runG ?_
  unfold Fb_Family_every_telling
  show Gs (seqG _ _ [some (famD cs X fo), some (.int (L : Int)), none]) _
  refine gs_seq2 (gs_each tlD (fun T => [tlD T]) (tlF (mc cs) (foF cs.length fo) 8 (fsF cs.length X) L) (fun z => ∃ x2, z = [some (famD cs X fo), some (.int (L : Int)), x2]) ?_ ⟨none, rfl⟩ ?_ ?_)
  · refine rs_methGA (ns := ["cases", "firsts", "follows"]) (vs := [.tup (cs.map csD), natT X, .tup (fo.map natT)]) (rs_var rfl rfl) (by decide) ?_
    refine rs_cons (rs_un (rs_var rfl (rs_fld (d := natT X) rfl (rs_cons (rs_var rfl (rs_nil ?_))))))
    exact Rs.of (tells_eq hf 8 X L h1 h2 (Nat.le_refl _) hX) rfl
  · rintro T _ z ⟨x2, rfl⟩
    refine ⟨_, rfl, ?_⟩
    show Gs (Gp_Family_every_telling_1 [some (famD cs X fo), some (.int (L : Int)), some (tlD T)]) _
    unfold Gp_Family_every_telling_1
    exact gs_seq2 (gs_yield2 (rs_var rfl ⟨rfl, gs_nil2 ⟨rfl, _, rfl⟩⟩))
  · rintro z ⟨x2, rfl⟩
    refine gs_nil2 ?_
    rw [List.append_nil, flat_one tlD])
end
end
section
abbrev natP (l : List Nat) : PyData := .tuple (l.map fun (k : Nat) => .int (k : Int))
def blkP (p : Nat × List Nat) : PyData := .tuple [.int (p.1 : Int), natP p.2]
theorem cdN : Cd (fun _ : Nat => True) (fun k : Nat => D.int (k : Int)) 0 (fun k : Nat => PyData.int (k : Int)) := Cd.comp cd_int (fun k : Nat => (k : Int)) fun a b h => by omega
theorem cdS : Cd (fun l : List Nat => ∀ x ∈ l, True) natT 1 natP := cd_tup cdN
theorem cdB : Cd (fun p : Nat × List Nat => True ∧ ∀ x ∈ p.2, True) blkT 2 blkP := cd_p2 (cdN.up (Nat.zero_le 1)) cdS
theorem cdT : Cd (fun T : Tl => ∀ p ∈ T, True ∧ ∀ x ∈ p.2, True) tlD 3 (fun T => .tuple (T.map blkP)) := cd_tup cdB
theorem okB (p : Nat × List Nat) : True ∧ ∀ x ∈ p.2, True := ⟨trivial, fun _ _ => trivial⟩
theorem alike_i (a b : Int) : PySem.W.alike (.int a) (.int b) = true := by simp [PySem.W.alike]
theorem alikeAll_n : ∀ s u : List Nat, PySem.W.alikeAll (s.map fun (k : Nat) => PyData.int (k : Int)) (u.map fun (k : Nat) => PyData.int (k : Int)) = true
  | [], _ => by simp [PySem.W.alikeAll]
  | _ :: _, [] => by simp [PySem.W.alikeAll]
  | x :: s, y :: u => by
    rw [List.map_cons, List.map_cons]
    unfold PySem.W.alikeAll
    rw [alikeAll_n s u, alike_i]
    rfl
theorem alike_n (s u : List Nat) : PySem.W.alike (natP s) (natP u) = true := by
  unfold natP PySem.W.alike
  exact alikeAll_n s u
theorem alike_b (p q : Nat × List Nat) : PySem.W.alike (blkP p) (blkP q) = true := by
  unfold blkP PySem.W.alike PySem.W.alikeAll PySem.W.alikeAll PySem.W.alikeAll
  rw [alike_i, alike_n]
  rfl
theorem alikeAll_b : ∀ T U : Tl, PySem.W.alikeAll (T.map blkP) (U.map blkP) = true
  | [], _ => by simp [PySem.W.alikeAll]
  | _ :: _, [] => by simp [PySem.W.alikeAll]
  | p :: T, q :: U => by
    rw [List.map_cons, List.map_cons]
    unfold PySem.W.alikeAll
    rw [alikeAll_b T U, alike_b]
    rfl
theorem ltS_ne : ∀ {s u : List Nat}, ltS s u → s ≠ u
  | [], _ :: _, _ => by simp
  | x :: s, y :: u, h => by
    rcases h with h | ⟨_, h⟩
    · intro e; injection e with e1 _; omega
    · intro e; injection e with _ e2; exact ltS_ne h e2
  | [], [], h => h.elim
  | _ :: _, [], h => h.elim
theorem ltS_lt : ∀ {s u : List Nat}, ltS s u → (s.map fun (k : Nat) => (k : Int)) < (u.map fun (k : Nat) => (k : Int))
  | [], _ :: _, _ => List.nil_lt_cons _ _
  | x :: s, y :: u, h => by
    rw [List.map_cons, List.map_cons, List.cons_lt_cons_iff]
    rcases h with h | ⟨h1, h2⟩
    · exact .inl (by omega)
    · exact .inr ⟨by omega, ltS_lt h2⟩
  | [], [], h => h.elim
  | _ :: _, [], h => h.elim
theorem lt_n {s u : List Nat} (h : ltS s u) : PySem.W.dataLt (natP s) (natP u) = true := by
  unfold natP
  rw [PySem.W.dataLt_tuple]
  have z := PySem.W.dataLt_ints (s.map fun (k : Nat) => (k : Int)) (u.map fun (k : Nat) => (k : Int))
  rw [List.map_map, List.map_map, decide_eq_true (ltS_lt h)] at z
  exact z
theorem lt_b {p q : Nat × List Nat} (h : ltP p q) : PyData.eqv (blkP p) (blkP q) = false ∧ PySem.W.dataLt (blkP p) (blkP q) = true := by
  have e1 := cdB.q p q (okB p) (okB q)
  have ei := cdN.q p.1 q.1 trivial trivial
  have es := cdS.q p.2 q.2 (fun _ _ => trivial) fun _ _ => trivial
  rw [e1]
  unfold blkP
  rw [PySem.W.dataLt_pair (alike_i _ _) (alike_n _ _), ei, es]
  rcases h with h | ⟨h1, h2⟩
  · have hne : ¬ p.1 = q.1 := by omega
    refine ⟨decide_eq_false fun e => hne (by rw [e]), ?_⟩
    rw [if_neg (by rw [decide_eq_false hne]; exact Bool.false_ne_true), PySem.W.dataLt_int]
    exact decide_eq_true (by omega)
  · have hne : ¬ p.2 = q.2 := ltS_ne h2
    refine ⟨decide_eq_false fun e => hne (by rw [e]), ?_⟩
    rw [if_pos (decide_eq_true h1), if_neg (by rw [decide_eq_false hne]; exact Bool.false_ne_true)]
    exact lt_n h2
theorem lt_t : ∀ {T U : Tl}, ltT T U → PyProof.Rows.lexLt PyProof.Rows.itemOrd (PySem.W.keyToksAll (T.map blkP)) (PySem.W.keyToksAll (U.map blkP)) = true
  | p :: T, q :: U, h => by
    rw [List.map_cons, List.map_cons]
    rcases h with h | ⟨h1, h2⟩
    · obtain ⟨k1, k2⟩ := lt_b h
      rw [PySem.W.dataLt_all_no (alike_b p q) k1]
      exact k2
    · subst h1
      rw [PySem.W.dataLt_all_yes (alike_b p p) (by rw [cdB.q p p (okB p) (okB p)]; exact decide_eq_true rfl)]
      exact lt_t h2
  | [], _, h => h.elim
  | _ :: _, [], h => h.elim
theorem rs_ltT {T U : Tl} {Q : D → Prop} {E : Str → List Str → List D → Prop} (h : ltT T U) (q : Q (.bl true)) : Rs (ltDD (tlD T) (tlD U)) Q E := by
  refine rs_ltDD (cdT.e T fun p _ => okB p) (cdT.e U fun p _ => okB p) ?_ (by rw [PySem.W.dataLt_tuple, lt_t h]; exact q)
  unfold ltOk
  rw [Bool.and_eq_true, Bool.and_eq_true]
  refine ⟨⟨?_, rfl⟩, decide_eq_true ?_⟩
  · unfold PySem.W.alike
    exact alikeAll_b T U
  · have := (cdT.l T fun p _ => okB p).2
    omega
theorem num_eq (i : Int) : F_l_number [.int i] = .ok (.bl true) := Rs.eq (by
  refine rs_run ?_
  unfold Fb_l_number
  array_get_dec
  rfl)
theorem VTl_get {m : Nat → Nat} {fo : Nat → List Nat} : ∀ {fs : List Nat} {T : Tl} {i : Nat} {p : Nat × List Nat}, VTl m fo fs T → T[i]? = some p → (i = 0 → p.1 ∈ fs) ∧ (∀ j q, i = j + 1 → T[j]? = some q → p.1 ∈ fo q.1) ∧ p.2 ≠ [] ∧ ∀ x ∈ p.2, x < m p.1
  | _, [], _, _, _, h => by simp at h
  | fs, (c, s) :: T, 0, p, ⟨h1, h2, h3, h4⟩, h => by
    have h : (c, s) = p := by simpa using h
    subst h
    exact ⟨fun _ => h1, fun j q e => by omega, h2, h3⟩
  | fs, (c, s) :: T, i + 1, p, ⟨h1, h2, h3, h4⟩, h => by
    have h : T[i]? = some p := by simpa using h
    obtain ⟨k1, k2, k3, k4⟩ := VTl_get h4 h
    refine ⟨fun e => by omega, fun j q e hq => ?_, k3, k4⟩
    have e : i = j := by omega
    subst e
    cases i with
    | zero =>
      have hq : (c, s) = q := by simpa using hq
      subst hq
      exact k1 rfl
    | succ i => exact k2 i q rfl (by simpa using hq)
end
section
theorem ss_eachT {N B C : Rho → Prop} {R : D → Prop} {E : Rho → Str → List Str → List D → Prop} {r : Rho} {α : Type} {m : Nat} {f : Rho → Res D} {F : Rho → SR} (g : α → D) (xs : List α) (I : Nat → Rho → Prop) (h : Rs (f r) (fun d => d = .tup (xs.map g)) (E r)) (h0 : I 0 r) (hs : ∀ i x r, xs[i]? = some x → I i r → Ss (F (r.set m (some (g x)))) (I (i + 1)) R N (I (i + 1)) E) (he : ∀ r, I xs.length r → N r) : Ss (forF (dIt itemsT f) (tgN m) F r) N R B C E :=
  ss_for I (rs_it (h.impE (fun d q => by
    subst q
    refine rs_itsT ⟨h0, fun i d r h1 h2 => ?_, fun r h => he r (by rw [List.length_map] at h; exact h)⟩
    rw [List.getElem?_map] at h1
    cases hx : xs[i]? with
    | none => rw [hx] at h1; cases h1
    | some x => rw [hx] at h1; cases h1; exact ⟨_, rfl, hs i x r hx h2⟩) fun _ _ _ z => z))
section
variable {x : Nat} {X : List Nat} {Q : D → Prop} {E : Str → List Str → List D → Prop}
theorem inT_eq (x : Nat) (X : List Nat) : inB (.int (x : Int)) (natT X) = .ok (decide (x ∈ X)) := by
  have e1 : (X.map fun (k : Nat) => D.int (k : Int)) = (X.map fun (k : Nat) => (k : Int)).map D.int := by rw [List.map_map]; rfl
  have e2 : decide ((x : Int) ∈ X.map fun (k : Nat) => (k : Int)) = decide (x ∈ X) := by
    refine decide_eq_decide.mpr ?_
    rw [List.mem_map]
    constructor
    · rintro ⟨y, hy, e⟩
      have : y = x := by omega
      rw [← this]; exact hy
    · intro h; exact ⟨x, h, rfl⟩
  show inTup (.int (x : Int)) (X.map fun (k : Nat) => D.int (k : Int)) = _
  unfold inTup
  rw [e1, inFlat_ints, e2]
theorem rs_inN (q : Q (.bl (decide (x ∈ X)))) : Rs (inD (.int (x : Int)) (natT X)) Q E := by
  unfold inD
  rw [inT_eq]
  exact q
theorem rs_ninN (q : Q (.bl (!decide (x ∈ X)))) : Rs (ninD (.int (x : Int)) (natT X)) Q E := by
  unfold ninD
  rw [inT_eq]
  exact q
end
abbrev itR (cs : List Cs) (X : List Nat) (fo : List (List Nat)) (T : Tl) (L tot : Nat) (bf : Int) (x7 x8 : Option D) : Rho := [some (.tup (cs.map csD)), some (natT X), some (.tup (fo.map natT)), some (tlD T), some (.int (L : Int)), some (.int (tot : Int)), some (.int bf), x7, x8]
def befT (T : Tl) : Nat → Int
  | 0 => -1
  | j + 1 => ((T.getD j default).1 : Int)
theorem lenT_snoc {T : Tl} {i : Nat} {p : Nat × List Nat} (h : T[i]? = some p) : lenT (T.take (i + 1)) = lenT (T.take i) + p.2.length := by
  unfold lenT
  rw [take_snoc h, sm_app, sm_cons, sm_nil]
  rfl
theorem is_telling_eq {cs : List Cs} {X : List Nat} {fo : List (List Nat)} (hf : FOk cs fo) (hX : SubN cs.length X) {T : Tl} {L : Nat} (hT : T ≠ []) (hv : VTl (mc cs) (foF cs.length fo) (fsF cs.length X) T) (hL : lenT T = L) (hc : cs.length ≤ 1000) : F_l_is_telling [.tup (cs.map csD), natT X, .tup (fo.map natT), tlD T, .int (L : Int)] = .ok (.bl true) := Rs.eq (by
  have hpos : 1 ≤ T.length := List.length_pos_iff.mpr hT
  refine rs_run ?_
  unfold Fb_l_is_telling
  show Ss (seqF _ _ [some (.tup (cs.map csD)), some (natT X), some (.tup (fo.map natT)), some (.tup (T.map blkT)), some (.int (L : Int)), none, none, none, none]) _ _ _ _ _
  refine ss_seq (ss_cut (fun z => z = [some (.tup (cs.map csD)), some (natT X), some (.tup (fo.map natT)), some (tlD T), some (.int (L : Int)), none, none, none, none]) ?_ ?_)
  · array_get_dec
    rw [List.length_map]
    refine ⟨fun c => ?_, fun _ => rfl⟩
    exfalso
    simp at c
    first | exact hT c | omega
  rintro _ rfl
  refine ss_seq (ss_set (rs_c ?_))
  refine ss_seq (ss_set (rs_un (rs_c (rs_neg ?_))))
  show Ss (seqF _ _ (itR cs X fo T L 0 (-1) none none)) _ _ _ _ _
  refine ss_seq (ss_cut (fun z => ∃ bf x7 x8, z = itR cs X fo T L L bf x7 x8) ?_ ?_)
  · refine ss_eachT blkT T (fun i z => ∃ x7 x8, z = itR cs X fo T L (lenT (T.take i)) (befT T i) x7 x8) ?_ ⟨none, none, rfl⟩ ?_ ?_
    · array_get_dec
      rfl
    · rintro i p z hi ⟨x7, x8, rfl⟩
      obtain ⟨g1, g2, g3, g4⟩ := VTl_get hv hi
      have hil := (List.getElem?_eq_some_iff.mp hi).1
      have hcl : p.1 < cs.length := by
        cases i with
        | zero => exact hX.2 _ ((fsF_mem hX _).mp (g1 rfl))
        | succ j =>
          have hq : T[j]? = some (T.getD j default) := by rw [List.getD_eq_getElem?_getD, List.getElem?_eq_getElem (by omega)]; rfl
          exact List.mem_range.mp (List.mem_filter.mp (g2 j _ rfl hq)).1
      have hm : mc cs p.1 ≤ 1000 := hf.m _ (getD_mem hcl)
      have hp2 : 1 ≤ p.2.length := List.length_pos_iff.mpr g3
      show Ss (Lp_l_is_telling_2 (itR cs X fo T L (lenT (T.take i)) (befT T i) (some (.tup [.int (p.1 : Int), natT p.2])) x8)) _ _ _ _ _
      unfold Lp_l_is_telling_2
      refine ss_seq (ss_cut (fun z => z = itR cs X fo T L (lenT (T.take i)) (befT T i) (some (.tup [.int (p.1 : Int), natT p.2])) x8) ?_ ?_)
      · array_get_dec
        rw [List.length_map]
        refine ⟨fun c => ?_, fun _ => rfl⟩
        exfalso
        simp at c
        first | exact g3 c | omega
      rintro _ rfl
      refine ss_seq (ss_cut (fun z => z = itR cs X fo T L (lenT (T.take i)) (befT T i) (some (.tup [.int (p.1 : Int), natT p.2])) x8) ?_ ?_)
      · array_get_dec
        refine Rs.of (num_eq _) ?_
        array_get_dec
        rw [List.length_map]
        refine ⟨fun c => ?_, fun _ => rfl⟩
        simp at c
        omega
      rintro _ rfl
      refine ss_seq (ss_cut (fun z => z = itR cs X fo T L (lenT (T.take i)) (befT T i) (some (.tup [.int (p.1 : Int), natT p.2])) x8) ?_ ?_)
      · cases i with
        | zero =>
          show Ss (ifF _ _ _ (itR cs X fo T L (lenT (T.take 0)) (-1) (some (.tup [.int (p.1 : Int), natT p.2])) x8)) _ _ _ _ _
          refine ss_if (rs_or (rs_andc (rs_T (rs_op (rs_var rfl (rs_c (rs_lt (rs_asB ⟨fun _ => ?_, fun c => absurd (of_decide_eq_false c) (by decide)⟩))))))))
          refine rs_T (rs_op (rs_op (rs_var rfl (rs_c (rs_ixT rfl (rs_var rfl (rs_ninN (rs_asB ?_))))))))
          rw [decide_eq_true ((fsF_mem hX _).mp (g1 rfl))]
          refine rs_andc (rs_T (rs_op (rs_var rfl (rs_c (rs_ge (rs_asB ⟨fun c => absurd (of_decide_eq_true c) (by decide), fun _ => ?_⟩))))))
          exact ⟨fun c => (by cases c), fun _ => ss_nx rfl⟩
        | succ j =>
          have hq : T[j]? = some (T.getD j default) := by rw [List.getD_eq_getElem?_getD, List.getElem?_eq_getElem (by omega)]; rfl
          have hg := g2 j _ rfl hq
          have hql : (T.getD j default).1 < cs.length := by
            obtain ⟨k1, k2, _, _⟩ := VTl_get hv hq
            cases j with
            | zero => exact hX.2 _ ((fsF_mem hX _).mp (k1 rfl))
            | succ j2 =>
              have hq2 : T[j2]? = some (T.getD j2 default) := by rw [List.getD_eq_getElem?_getD, List.getElem?_eq_getElem (by omega)]; rfl
              exact List.mem_range.mp (List.mem_filter.mp (k2 j2 _ rfl hq2)).1
          obtain ⟨q, hqe⟩ : ∃ q, T.getD j default = q := ⟨_, rfl⟩
          rw [hqe] at hg hql
          have hbf : befT T (j + 1) = (q.1 : Int) := by rw [befT, hqe]
          rw [hbf]
          have hmem : p.1 ∈ fo.getD q.1 [] := of_decide_eq_true (List.mem_filter.mp hg).2
          refine ss_if (rs_or (rs_andc (rs_T (rs_op (rs_var rfl (rs_c (rs_lt (rs_asB ⟨fun c => absurd (of_decide_eq_true c) (by omega), fun _ => ?_⟩))))))))
          refine rs_andc (rs_T (rs_op (rs_var rfl (rs_c (rs_ge (rs_asB ⟨fun _ => ?_, fun c => absurd (of_decide_eq_false c) (by omega)⟩))))))
          refine rs_T (rs_op (rs_op (rs_var rfl (rs_c (rs_ixT rfl (rs_op (rs_var rfl (rs_var rfl (rs_fo (by rw [hf.l]; exact hql) (rs_ninN (rs_asB ?_)))))))))))
          rw [decide_eq_true hmem]
          exact ⟨fun c => (by cases c), fun _ => ss_nx rfl⟩
      rintro _ rfl
      refine ss_seq (ss_cut (fun z => ∃ x8, z = itR cs X fo T L (lenT (T.take i)) (befT T i) (some (.tup [.int (p.1 : Int), natT p.2])) x8) ?_ ?_)
      · refine ss_eachT (fun (k : Nat) => D.int (k : Int)) p.2 (fun _ z => ∃ x8, z = itR cs X fo T L (lenT (T.take i)) (befT T i) (some (.tup [.int (p.1 : Int), natT p.2])) x8) ?_ ⟨x8, rfl⟩ ?_ ?_
        · array_get_dec
          rfl
        · rintro a k z hk ⟨x8, rfl⟩
          have hkm := g4 k (List.mem_of_getElem? hk)
          show Ss (Lp_l_is_telling_1 (itR cs X fo T L (lenT (T.take i)) (befT T i) (some (.tup [.int (p.1 : Int), natT p.2])) (some (.int (k : Int))))) _ _ _ _ _
          unfold Lp_l_is_telling_1
          refine ss_if (rs_or (rs_not (rs_T (rs_call (rs_cons (rs_var rfl (rs_nil (Rs.of (num_eq _) (rs_asB ?_)))))))))
          refine rs_not (rs_T (rs_chain (rs_c (rs_var rfl (rs_le (rs_asB ?_))))))
          refine rs_call (rs_cons (rs_op (rs_op (rs_var rfl (rs_op (rs_var rfl (rs_c (rs_ixT rfl (rs_case hcl (rs_c (rs_menu (rs_nil (rs_lenT ?_)))))))))))))
          rw [List.length_map]
          refine rs_lt (rs_asB ?_)
          rw [decide_eq_true (show (0 : Int) ≤ (k : Int) by omega), decide_eq_true (show (k : Int) < ((mc cs p.1 : Nat) : Int) by omega)]
          exact ⟨fun c => (by cases c), fun _ => ss_nx ⟨_, rfl⟩⟩
        · rintro z hz
          exact hz
      rintro _ ⟨x8, rfl⟩
      refine ss_seq (ss_cut (fun z => z = itR cs X fo T L (lenT (T.take (i + 1))) (befT T i) (some (.tup [.int (p.1 : Int), natT p.2])) x8) ?_ ?_)
      · array_get_dec
        rw [List.length_map, lenT_snoc hi, ← Int.natCast_add]
        rfl
      rintro _ rfl
      refine ss_set (rs_op (rs_var rfl (rs_c (rs_ixT rfl ⟨some (.tup [.int (p.1 : Int), natT p.2]), x8, ?_⟩))))
      show itR cs X fo T L (lenT (T.take (i + 1))) (p.1 : Int) (some (.tup [.int (p.1 : Int), natT p.2])) x8 = itR cs X fo T L (lenT (T.take (i + 1))) (befT T (i + 1)) (some (.tup [.int (p.1 : Int), natT p.2])) x8
      have hgd : T.getD i default = p := by rw [List.getD_eq_getElem?_getD, hi]; rfl
      rw [befT, hgd]
    · rintro z ⟨x7, x8, rfl⟩
      rw [List.take_length, hL]
      exact ⟨_, x7, x8, rfl⟩
  rintro _ ⟨bf, x7, x8, rfl⟩
  array_get_dec
  simp)
end
section
def wayL (many : Nat) (W : Nat → Nat) : D := .lst ((List.range many).map fun c => .int (W c : Int))
theorem way_set {many : Nat} (f : Nat → D) (c : Nat) (v : D) : ((List.range many).map f).set c v = (List.range many).map fun d => if d = c then v else f d := by
  apply List.ext_getElem?
  intro j
  rw [List.getElem?_map]
  by_cases hj : j < many
  · rw [List.getElem?_range hj]
    by_cases e : c = j
    · subst e
      rw [List.getElem?_set_self (by rw [List.length_map, List.length_range]; exact hj)]
      simp
    · rw [List.getElem?_set_ne e, List.getElem?_map, List.getElem?_range hj]
      have : ¬ j = c := fun z => e z.symm
      simp [this]
  · rw [List.getElem?_eq_none (by rw [List.length_set, List.length_map, List.length_range]; omega), List.getElem?_eq_none (by rw [List.length_range]; omega)]
    rfl
theorem way_at {many : Nat} {W : Nat → Nat} {c : Nat} (h : c < many) {Q : D → Prop} {E : Str → List Str → List D → Prop} (q : Q (.int (W c : Int))) : Rs (ixD (wayL many W) (.int (c : Int))) Q E := rs_ixL (atI_nat (by rw [List.getElem?_map, List.getElem?_range h]; rfl)) q
theorem sm_snoc (f : Nat → Nat) (i : Nat) : sm (List.range (i + 1)) f = sm (List.range i) f + f i := by rw [List.range_succ, sm_app, sm_cons, sm_nil]; rfl
abbrev ctR (cs : List Cs) (X : List Nat) (fo : List (List Nat)) (L : Nat) (w x5 x6 x7 x8 x9 : Option D) : Rho := [some (.tup (cs.map csD)), some (natT X), some (.tup (fo.map natT)), some (.int (L : Int)), w, x5, x6, x7, x8, x9]
abbrev isX (X : List Nat) (c : Nat) : Bool := decide (c ∈ X)
abbrev isFo (fo : List (List Nat)) (o c : Nat) : Bool := decide (c ∈ fo.getD o [])
theorem w0_nil (m : Nat → Nat) (many : Nat) (X : List Nat) (isO : Nat → Nat → Bool) : Wn m many (isX (X.take 0)) isO 0 = fun _ => 0 := by
  funext c
  unfold Wn isX
  rw [List.take_zero, if_neg (by simp)]
theorem w0_step (m : Nat → Nat) (many : Nat) {X : List Nat} {i c : Nat} (isO : Nat → Nat → Bool) (hi : X[i]? = some c) (d : Nat) : (if d = c then m c else Wn m many (isX (X.take i)) isO 0 d) = Wn m many (isX (X.take (i + 1))) isO 0 d := by
  have hm : d ∈ X.take (i + 1) ↔ d ∈ X.take i ∨ d = c := by rw [take_snoc hi, List.mem_append, List.mem_singleton]
  unfold Wn isX
  by_cases e : d = c
  · rw [if_pos e, if_pos (decide_eq_true (hm.mpr (.inr e))), e]
  · rw [if_neg e]
    by_cases h : d ∈ X.take i
    · rw [if_pos (decide_eq_true h), if_pos (decide_eq_true (hm.mpr (.inl h)))]
    · rw [if_neg (by rw [decide_eq_true_eq]; exact h), if_neg (by rw [decide_eq_true_eq, hm]; exact fun z => z.elim h e)]
theorem count_eq {cs : List Cs} {X : List Nat} {fo : List (List Nat)} (hf : FOk cs fo) (hX : SubN cs.length X) (hc : cs.length ≤ 1000) (k : Nat) (hk : k ≤ 1000) : F_l_count [.tup (cs.map csD), natT X, .tup (fo.map natT), .int ((k + 1 : Nat) : Int)] = .ok (.int ((sm (List.range cs.length) (Wn (mc cs) cs.length (isX X) (isFo fo) k) : Nat) : Int)) := Rs.eq (by
  have hmc : ∀ c, c < cs.length → mc cs c ≤ 1000 := fun c h => hf.m _ (getD_mem h)
  refine rs_run ?_
  unfold Fb_l_count
  show Ss (seqF _ _ (ctR cs X fo (k + 1) none none none none none none)) _ _ _ _ _
  refine ss_seq (ss_cut (fun z => z = ctR cs X fo (k + 1) (some (wayL cs.length fun _ => 0)) none none none none none) ?_ ?_)
  · refine ss_set (rs_lc csD (fun _ => .int 0) cs (rs_it (rs_var rfl (rs_itsT rfl))) (Nat.le_trans hc (Nat.le_trans (by decide) sz5)) (fun x _ => ⟨_, rfl, rfl, rs_c rfl⟩) ?_)
    have : (cs.map fun _ => D.int 0) = (List.range cs.length).map fun _ => D.int ((0 : Nat) : Int) := by rw [List.map_const', List.map_const', List.length_range]; rfl
    rw [this]
    rfl
  rintro _ rfl
  refine ss_seq (ss_cut (fun z => ∃ x5, z = ctR cs X fo (k + 1) (some (wayL cs.length (Wn (mc cs) cs.length (isX X) (isFo fo) 0))) x5 none none none none) ?_ ?_)
  · refine ss_eachT (fun (c : Nat) => D.int (c : Int)) X (fun i z => ∃ x5, z = ctR cs X fo (k + 1) (some (wayL cs.length (Wn (mc cs) cs.length (isX (X.take i)) (isFo fo) 0))) x5 none none none none) ?_ ⟨none, ?_⟩ ?_ ?_
    · array_get_dec
      rfl
    · rw [w0_nil]
    · rintro i c z hi ⟨x5, rfl⟩
      have hcl : c < cs.length := hX.2 c (List.mem_of_getElem? hi)
      show Ss (Lp_l_count_1 (ctR cs X fo (k + 1) (some (wayL cs.length (Wn (mc cs) cs.length (isX (X.take i)) (isFo fo) 0))) (some (.int (c : Int))) none none none none)) _ _ _ _ _
      unfold Lp_l_count_1
      refine ss_sto (n := c) (k := (c : Int)) (ds := (List.range cs.length).map fun d => .int (Wn (mc cs) cs.length (isX (X.take i)) (isFo fo) 0 d : Int)) (rs_call (rs_cons (rs_op (rs_op (rs_var rfl (rs_var rfl (rs_case hcl (rs_c (rs_menu (rs_nil (rs_lenT ?_)))))))))))
      rw [show ((cs.getD c default).mn.map iT).length = mc cs c from List.length_map ..]
      refine ⟨rfl, rs_var rfl ⟨rfl, ?_, some (.int (c : Int)), ?_⟩⟩
      · unfold ixN
        simp only [List.length_map, List.length_range]
        rw [if_pos (by omega), if_pos (by omega)]
        simp
      · rw [way_set]
        have : ((List.range cs.length).map fun d => if d = c then D.int ((mc cs c : Nat) : Int) else .int (Wn (mc cs) cs.length (isX (X.take i)) (isFo fo) 0 d : Int)) = (List.range cs.length).map fun d => .int (Wn (mc cs) cs.length (isX (X.take (i + 1))) (isFo fo) 0 d : Int) := by
          refine List.map_congr_left fun d _ => ?_
          rw [← w0_step (mc cs) cs.length (isFo fo) hi d]
          by_cases e : d = c
          · rw [if_pos e, if_pos e]
          · rw [if_neg e, if_neg e]
        unfold wayL
        rw [← this]
        rfl
    · rintro z ⟨x5, rfl⟩
      refine ⟨x5, ?_⟩
      rw [List.take_length]
  rintro _ ⟨x5, rfl⟩
  refine ss_seq (ss_cut (fun z => ∃ x5 x6 x7 x8 x9, z = ctR cs X fo (k + 1) (some (wayL cs.length (Wn (mc cs) cs.length (isX X) (isFo fo) k))) x5 x6 x7 x8 x9) ?_ ?_)
  · refine ss_rng k (fun j z => ∃ x5 x6 x7 x8 x9, z = ctR cs X fo (k + 1) (some (wayL cs.length (Wn (mc cs) cs.length (isX X) (isFo fo) j))) x5 x6 x7 x8 x9) ?_ (by omega) ⟨x5, none, none, none, none, rfl⟩ ?_ ?_
    · refine rs_op (rs_var rfl (rs_c (rs_sub ?_)))
      rw [show ((k + 1 : Nat) : Int) - 1 = (k : Int) from by omega]
    · rintro j z hj ⟨x5, x6, x7, x8, x9, rfl⟩
      obtain ⟨W, hW⟩ : ∃ W, Wn (mc cs) cs.length (isX X) (isFo fo) j = W := ⟨_, rfl⟩
      have hW1 : ∀ c, Wn (mc cs) cs.length (isX X) (isFo fo) (j + 1) c = (W c + sm (List.range cs.length) fun o => if isFo fo o c = true then W o else 0) * mc cs c := fun c => by rw [Wn, hW]
      rw [hW]
      show Ss (Lp_l_count_4 (ctR cs X fo (k + 1) (some (wayL cs.length W)) x5 (some (.int (j : Int))) x7 x8 x9)) _ _ _ _ _
      unfold Lp_l_count_4
      refine ss_seq (ss_cut (fun z => z = ctR cs X fo (k + 1) (some (wayL cs.length W)) x5 (some (.int (j : Int))) (some (.lst [])) x8 x9) ?_ ?_)
      · array_get_dec
        rfl
      rintro _ rfl
      refine ss_seq (ss_cut (fun z => ∃ x5 x8 x9, z = ctR cs X fo (k + 1) (some (wayL cs.length W)) x5 (some (.int (j : Int))) (some (wayL cs.length (Wn (mc cs) cs.length (isX X) (isFo fo) (j + 1)))) x8 x9) ?_ ?_)
      · refine ss_rng cs.length (fun i z => ∃ x5 x8 x9, z = ctR cs X fo (k + 1) (some (wayL cs.length W)) x5 (some (.int (j : Int))) (some (wayL i (Wn (mc cs) cs.length (isX X) (isFo fo) (j + 1)))) x8 x9) ?_ (by omega) ⟨x5, x8, x9, rfl⟩ ?_ ?_
        · array_get_dec
          rw [List.length_map]
        · rintro i z hi ⟨x5, x8, x9, rfl⟩
          have hm : (cs.getD i default).mn.length ≤ 1000 := hmc i hi
          show Ss (Lp_l_count_3 (ctR cs X fo (k + 1) (some (wayL cs.length W)) (some (.int (i : Int))) (some (.int (j : Int))) (some (wayL i (Wn (mc cs) cs.length (isX X) (isFo fo) (j + 1)))) x8 x9)) _ _ _ _ _
          unfold Lp_l_count_3
          refine ss_seq (ss_cut (fun z => z = ctR cs X fo (k + 1) (some (wayL cs.length W)) (some (.int (i : Int))) (some (.int (j : Int))) (some (wayL i (Wn (mc cs) cs.length (isX X) (isFo fo) (j + 1)))) (some (.int (W i : Int))) x9) ?_ ?_)
          · exact ss_set (rs_op (rs_var rfl (rs_var rfl (way_at hi rfl))))
          rintro _ rfl
          refine ss_seq (ss_cut (fun z => ∃ x9, z = ctR cs X fo (k + 1) (some (wayL cs.length W)) (some (.int (i : Int))) (some (.int (j : Int))) (some (wayL i (Wn (mc cs) cs.length (isX X) (isFo fo) (j + 1)))) (some (.int ((W i + sm (List.range cs.length) fun o => if isFo fo o i = true then W o else 0 : Nat) : Int))) x9) ?_ ?_)
          · refine ss_rng cs.length (fun a z => ∃ x9, z = ctR cs X fo (k + 1) (some (wayL cs.length W)) (some (.int (i : Int))) (some (.int (j : Int))) (some (wayL i (Wn (mc cs) cs.length (isX X) (isFo fo) (j + 1)))) (some (.int ((W i + sm (List.range a) fun o => if isFo fo o i = true then W o else 0 : Nat) : Int))) x9) ?_ (by omega) ⟨x9, rfl⟩ ?_ ?_
            · array_get_dec
              rw [List.length_map]
            · rintro a z ha ⟨x9, rfl⟩
              show Ss (Lp_l_count_2 (ctR cs X fo (k + 1) (some (wayL cs.length W)) (some (.int (i : Int))) (some (.int (j : Int))) (some (wayL i (Wn (mc cs) cs.length (isX X) (isFo fo) (j + 1)))) (some (.int ((W i + sm (List.range a) fun o => if isFo fo o i = true then W o else 0 : Nat) : Int))) (some (.int (a : Int))))) _ _ _ _ _
              unfold Lp_l_count_2
              refine ss_if (rs_T (rs_op (rs_var rfl (rs_op (rs_var rfl (rs_var rfl (rs_fo (by rw [hf.l]; exact ha) (rs_inN (rs_asB ⟨fun c => ?_, fun c => ?_⟩)))))))))
              · refine ss_set (rs_op (rs_var rfl (rs_op (rs_var rfl (rs_var rfl (way_at ha (rs_add ⟨some (.int (a : Int)), ?_⟩)))))))
                rw [sm_snoc, if_pos c, ← Nat.add_assoc, ← Int.natCast_add]
                rfl
              · refine ss_nx ⟨some (.int (a : Int)), ?_⟩
                rw [sm_snoc, if_neg (by show ¬ decide (i ∈ fo.getD a []) = true; rw [c]; exact Bool.false_ne_true)]
                rfl
            · rintro z hz
              exact hz
          rintro _ ⟨x9, rfl⟩
          refine ss_app (ds := (List.range i).map fun c => .int ((Wn (mc cs) cs.length (isX X) (isFo fo) (j + 1) c : Nat) : Int)) rfl ?_
          refine rs_op (rs_var rfl (rs_call (rs_cons (rs_op (rs_op (rs_var rfl (rs_var rfl (rs_case hi (rs_c (rs_menu (rs_nil (rs_lenT ?_))))))))))))
          rw [List.length_map]
          refine rs_mul (.inr (small_of (by omega) (by omega))) ⟨?_, some (.int (i : Int)), some (.int ((W i + sm (List.range cs.length) fun o => if isFo fo o i = true then W o else 0 : Nat) : Int)), x9, ?_⟩
          · rw [List.length_map, List.length_range]
            exact Nat.lt_of_lt_of_le (show i < 100000 by omega) sz5
          · rw [← Int.natCast_mul]
            have : wayL (i + 1) (Wn (mc cs) cs.length (isX X) (isFo fo) (j + 1)) = .lst (((List.range i).map fun c => .int ((Wn (mc cs) cs.length (isX X) (isFo fo) (j + 1) c : Nat) : Int)) ++ [.int (((W i + sm (List.range cs.length) fun o => if isFo fo o i = true then W o else 0) * mc cs i : Nat) : Int)]) := by
              unfold wayL
              rw [List.range_succ, List.map_append, List.map_cons, List.map_nil, hW1 i]
            rw [this]
            rfl
        · rintro z hz
          exact hz
      rintro _ ⟨y5, y8, y9, rfl⟩
      exact ss_set (rs_var rfl ⟨y5, _, _, y8, y9, rfl⟩)
    · rintro z hz
      exact hz
  rintro _ ⟨y5, x6, x7, x8, x9, rfl⟩
  obtain ⟨W, hW⟩ : ∃ W, Wn (mc cs) cs.length (isX X) (isFo fo) k = W := ⟨_, rfl⟩
  rw [hW]
  have e1 : wayL cs.length W = .lst (((List.range cs.length).map fun c => (W c : Int)).map D.int) := by unfold wayL; rw [List.map_map]; rfl
  rw [e1]
  refine ss_ret (rs_call (rs_cons (rs_var rfl (rs_nil (rs_sum ?_)))))
  have e2 : ∀ n : Nat, ((List.range n).map fun c => (W c : Int)).sum = ((sm (List.range n) W : Nat) : Int) := fun n => by
    induction n with
    | zero => rfl
    | succ n ih => rw [sm_snoc, List.range_succ, List.map_append, List.sum_append, ih]; simp
  rw [e2])
end
section
theorem rs_lg {its : Rho → Res (List D)} {r : Rho} {Q : D → Prop} {E : Str → List Str → List D → Prop} (h : Rs (its r) (fun ds => ds.length ≤ sizeLine ∧ Q (.lst ds)) nE) : Rs (dListG its r) Q E := by
  obtain ⟨ds, e, h1, h2⟩ := h.get
  unfold dListG
  rw [e]
  dsimp only
  exact rs_guard h1 h2
theorem Vn_le {m : Nat → Nat} {fo : Nat → List Nat} (hm : ∀ c, m c ≤ 3) (hfl : ∀ c, (fo c).length ≤ 3) : ∀ k c : Nat, Vn m fo k c ≤ 12 ^ k
  | 0, _ => Nat.le_refl _
  | k + 1, c => by
    rw [Vn, Nat.pow_succ]
    have h1 : m c * Vn m fo k c ≤ 3 * 12 ^ k := Nat.mul_le_mul (hm c) (Vn_le hm hfl k c)
    have h2 : (sm (fo c) fun d => m d * Vn m fo k d) ≤ (fo c).length * (3 * 12 ^ k) := sm_le fun d _ => Nat.mul_le_mul (hm d) (Vn_le hm hfl k d)
    have h3 : (fo c).length * (3 * 12 ^ k) ≤ 3 * (3 * 12 ^ k) := Nat.mul_le_mul_right _ (hfl c)
    omega
theorem fsF_len (many : Nat) (X : List Nat) : (fsF many X).length ≤ many := by
  have := List.length_filter_le (fun d => decide (d ∈ X)) (List.range many)
  rw [List.length_range] at this
  exact this
theorem sz200 : 200000 ≤ sizeLine := Nat.le_of_ble_eq_true rfl
theorem mc_le {cs : List Cs} {n : Nat} (h : ∀ c ∈ cs, c.mn.length ≤ n) (c : Nat) : mc cs c ≤ n := by
  by_cases hc : c < cs.length
  · exact h _ (getD_mem hc)
  · unfold mc
    rw [List.getD_eq_getElem?_getD, List.getElem?_eq_none (by omega)]
    exact Nat.zero_le _
abbrev atR (cs : List Cs) (X : List Nat) (fo : List (List Nat)) (L : Nat) (x5 x6 : Option D) : Rho := [some (famD cs X fo), some (.tup (cs.map csD)), some (natT X), some (.tup (fo.map natT)), some (.int (L : Int)), x5, x6]
theorem all_told_eq {cs : List Cs} {X : List Nat} {fo : List (List Nat)} (hf : FOk cs fo) (hX : SubN cs.length X) (hc : cs.length ≤ 3) (hm : ∀ c ∈ cs, c.mn.length ≤ 3) (k : Nat) (hk : k < 5) : F_l_all_told [famD cs X fo, .tup (cs.map csD), natT X, .tup (fo.map natT), .int ((k + 1 : Nat) : Int)] = .ok (.bl true) := Rs.eq (by
  have hev := every_eq hf X (k + 1) (by omega) (by omega) hX
  have hin : ∀ T ∈ tlF (mc cs) (foF cs.length fo) 8 (fsF cs.length X) (k + 1), T ≠ [] ∧ VTl (mc cs) (foF cs.length fo) (fsF cs.length X) T ∧ lenT T = k + 1 := fun T h => tl_in _ _ (by omega) (by omega) h
  have hlt := tl_lt (mc cs) (foF cs.length fo) (fun c => fsF_lt _ _) 8 (fsF cs.length X) (k + 1) (fsF_lt _ _)
  have hcount : (tlF (mc cs) (foF cs.length fo) 8 (fsF cs.length X) (k + 1)).length = sm (List.range cs.length) (Wn (mc cs) cs.length (isX X) (isFo fo) k) := tl_count (mc cs) (foF cs.length fo) (isF := isX X) (isO := isFo fo) (fun o => rfl) 8 k (by omega)
  have hlen : (tlF (mc cs) (foF cs.length fo) 8 (fsF cs.length X) (k + 1)).length ≤ 200000 := by
    rw [tl_len _ _ 8 _ k (by omega)]
    have h1 : (sm (fsF cs.length X) fun c => mc cs c * Vn (mc cs) (foF cs.length fo) k c) ≤ (fsF cs.length X).length * (3 * 12 ^ k) := sm_le fun d _ => Nat.mul_le_mul (mc_le hm d) (Vn_le (mc_le hm) (fun c => Nat.le_trans (fsF_len _ _) hc) k d)
    have h2 : (fsF cs.length X).length * (3 * 12 ^ k) ≤ 3 * (3 * 12 ^ 4) := Nat.mul_le_mul (Nat.le_trans (fsF_len _ _) hc) (Nat.mul_le_mul_left _ (Nat.pow_le_pow_right (by decide) (by omega)))
    omega
  generalize tlF (mc cs) (foF cs.length fo) 8 (fsF cs.length X) (k + 1) = Ts at *
  have hsz := sz200
  refine rs_run ?_
  unfold Fb_l_all_told
  show Ss (seqF _ _ (atR cs X fo (k + 1) none none)) _ _ _ _ _
  refine ss_seq (ss_cut (fun z => z = atR cs X fo (k + 1) (some (.lst (Ts.map tlD))) none) ?_ ?_)
  · refine ss_set (rs_lg (rs_methGA (ns := ["cases", "firsts", "follows"]) (vs := [.tup (cs.map csD), natT X, .tup (fo.map natT)]) (rs_var rfl rfl) (by decide) ?_))
    refine rs_cons (rs_var rfl (rs_nil (Rs.of hev ⟨?_, rfl⟩)))
    rw [List.length_map]
    omega
  rintro _ rfl
  refine ss_seq (ss_cut (fun z => ∃ x6, z = atR cs X fo (k + 1) (some (.lst (Ts.map tlD))) x6) ?_ ?_)
  · refine ss_rng Ts.length (fun _ z => ∃ x6, z = atR cs X fo (k + 1) (some (.lst (Ts.map tlD))) x6) ?_ (by omega) ⟨none, rfl⟩ ?_ ?_
    · array_get_dec
      rw [List.length_map]
    · rintro i z hi ⟨x6, rfl⟩
      have hT : Ts[i]? = some Ts[i] := List.getElem?_eq_getElem hi
      obtain ⟨a1, a2, a3⟩ := hin _ (List.getElem_mem hi)
      show Ss (Lp_l_all_told_1 (atR cs X fo (k + 1) (some (.lst (Ts.map tlD))) (some (.int (i : Int))))) _ _ _ _ _
      unfold Lp_l_all_told_1
      refine ss_seq (ss_cut (fun z => z = atR cs X fo (k + 1) (some (.lst (Ts.map tlD))) (some (.int (i : Int)))) ?_ ?_)
      · refine ss_if (rs_not (rs_T (rs_call (rs_cons (rs_var rfl (rs_cons (rs_var rfl (rs_cons (rs_var rfl (rs_cons (rs_op (rs_var rfl (rs_var rfl (rs_ixL (d := tlD Ts[i]) (atI_nat (by rw [List.getElem?_map, hT]; rfl)) (rs_cons (rs_var rfl (rs_nil ?_)))))))))))))))))
        refine Rs.of (is_telling_eq hf hX a1 a2 a3 (by omega)) (rs_asB ?_)
        exact ⟨fun c => (by cases c), fun _ => ss_nx rfl⟩
      rintro _ rfl
      cases i with
      | zero => exact ss_if (rs_andc (rs_T (rs_op (rs_var rfl (rs_c (rs_gt (rs_asB ⟨fun c => absurd (of_decide_eq_true c) (by decide), fun _ => ⟨fun c => (by cases c), fun _ => ss_nx ⟨_, rfl⟩⟩⟩)))))))
      | succ j =>
        have hj : Ts[j]? = some Ts[j] := List.getElem?_eq_getElem (by omega)
        have hl : ltT Ts[j] Ts[j + 1] := List.pairwise_iff_getElem.mp hlt j (j + 1) (by omega) hi (by omega)
        refine ss_if (rs_andc (rs_T (rs_op (rs_var rfl (rs_c (rs_gt (rs_asB ⟨fun _ => ?_, fun c => absurd (of_decide_eq_false c) (by omega)⟩)))))))
        refine rs_not (rs_T (rs_op (rs_op (rs_var rfl (rs_op (rs_var rfl (rs_c (rs_sub ?_))))))))
        rw [show ((j + 1 : Nat) : Int) - 1 = (j : Int) from by omega]
        refine rs_ixL (d := tlD Ts[j]) (atI_nat (by rw [List.getElem?_map, hj]; rfl)) ?_
        refine rs_op (rs_var rfl (rs_var rfl (rs_ixL (d := tlD Ts[j + 1]) (atI_nat (by rw [List.getElem?_map, hT]; rfl)) (rs_ltT hl (rs_asB ?_)))))
        exact ⟨fun c => (by cases c), fun _ => ss_nx ⟨_, rfl⟩⟩
    · rintro z hz
      exact hz
  rintro _ ⟨x6, rfl⟩
  refine ss_ret (rs_op (rs_call (rs_cons (rs_var rfl (rs_nil (rs_lenL ?_))))))
  rw [List.length_map]
  refine rs_call (rs_cons (rs_var rfl (rs_cons (rs_var rfl (rs_cons (rs_var rfl (rs_cons (rs_var rfl (rs_nil ?_)))))))))
  refine Rs.of (count_eq hf hX (by omega) k (by omega)) (rs_eqI ?_)
  rw [hcount]
  simp)
end
section
def pcOf (c : Cs) (ws : List Int) (l : Bool) (j : Nat) : Pc := ⟨ws.getD j 0, if j + 1 < ws.length then 1 else if l = true then 2 else 0, if j + 1 < ws.length then c.hy else c.bl, [], []⟩
def shF (c : Cs) (s : List Nat) (i : Nat) : List Pc := (List.range (c.mn.getD (s.getD i 0) []).length).map (pcOf c (c.mn.getD (s.getD i 0) []) (decide (i + 1 = s.length)))
def psF (c : Cs) (s : List Nat) (n : Nat) : List Pc := (List.range n).flatMap (shF c s)
def bkF (c : Cs) (s : List Nat) : Bk := ⟨c.h, c.ind, c.bef, c.kp, psF c s s.length⟩
theorem tie_j (c : Cs) {ws : List Int} (l : Bool) {j : Nat} (h : j + 1 < ws.length) : tieL (pcOf c ws l j) = [.str (Sg sJo), .int c.hy] := by simp [tieL, tieS, pcOf, h]
theorem tie_b (c : Cs) {ws : List Int} {j : Nat} (h : ¬ j + 1 < ws.length) : tieL (pcOf c ws false j) = [.str (Sg sBl), .int c.bl] := by simp [tieL, tieS, pcOf, h]
theorem tie_e (c : Cs) {ws : List Int} {j : Nat} (h : ¬ j + 1 < ws.length) : tieL (pcOf c ws true j) = [.str (Sg sEn)] := by simp [tieL, tieS, pcOf, h]
theorem psF_len {c : Cs} (hw : ∀ ws ∈ c.mn, ws.length ≤ 10) (s : List Nat) (n : Nat) : (psF c s n).length ≤ 10 * n := by
  unfold psF
  rw [len_flat, Nat.mul_comm]
  have h : ∀ i ∈ List.range n, (shF c s i).length ≤ 10 := fun i _ => by
    unfold shF
    rw [List.length_map, List.length_range]
    by_cases h : s.getD i 0 < c.mn.length
    · exact hw _ (getD_mem h)
    · rw [List.getD_eq_getElem?_getD, List.getElem?_eq_none (by omega)]
      exact Nat.zero_le _
  have := sm_le h
  rw [List.length_range] at this
  exact this
theorem rs_nat {s : List Nat} {i : Nat} (h : i < s.length) {Q : D → Prop} {E : Str → List Str → List D → Prop} (q : Q (.int (s.getD i 0 : Int))) : Rs (ixD (natT s) (.int (i : Int))) Q E := rs_ixT (atI_nat (by rw [List.getElem?_map, List.getD_eq_getElem?_getD, List.getElem?_eq_getElem h]; rfl)) q
theorem rs_wid {ws : List Int} {i : Nat} (h : i < ws.length) {Q : D → Prop} {E : Str → List Str → List D → Prop} (q : Q (.int (ws.getD i 0))) : Rs (ixD (iT ws) (.int (i : Int))) Q E := rs_ixT (atI_nat (by rw [List.getElem?_map, List.getD_eq_getElem?_getD, List.getElem?_eq_getElem h]; rfl)) q
theorem rs_mnu {mn : List (List Int)} {i : Nat} (h : i < mn.length) {Q : D → Prop} {E : Str → List Str → List D → Prop} (q : Q (iT (mn.getD i []))) : Rs (ixD (.tup (mn.map iT)) (.int (i : Int))) Q E := rs_ixT (atI_nat (by rw [List.getElem?_map, List.getD_eq_getElem?_getD, List.getElem?_eq_getElem h]; rfl)) q
section
variable {c : Cs} {Q : D → Prop} {E : Str → List Str → List D → Prop}
theorem rs_cs (k : Nat) {d : D} (h : ([.int c.h, .int c.ind, .int c.bef, .bl c.kp, .int c.bl, .int c.hy, .tup (c.mn.map iT)] : List D)[k]? = some d) (q : Q d) : Rs (ixD (csD c) (.int (k : Int))) Q E := rs_ixc (ds := [.int c.h, .int c.ind, .int c.bef, .bl c.kp, .int c.bl, .int c.hy, .tup (c.mn.map iT)]) k h q
end
theorem psF_step (c : Cs) (s : List Nat) (i : Nat) {ws : List Int} (h : c.mn.getD (s.getD i 0) [] = ws) : psF c s (i + 1) = psF c s i ++ (List.range ws.length).map (pcOf c ws (decide (i + 1 = s.length))) := by
  unfold psF
  rw [List.range_succ, List.flatMap_append, List.flatMap_cons, List.flatMap_nil, List.append_nil]
  subst h
  rfl
theorem mid_step {α : Type} (p : List α) (f : Nat → α) (j : Nat) : p ++ (List.range (j + 1)).map f = (p ++ (List.range j).map f) ++ [f j] := by rw [List.range_succ, List.map_append, List.map_cons, List.map_nil, List.append_assoc]
abbrev bcR (c : Cs) (s : List Nat) (x5 x6 x7 x8 x9 : Option D) : Rho := [some (csD c), some (natT s), some (.int c.bl), some (.int c.hy), some (.tup (c.mn.map iT)), x5, x6, x7, x8, x9]
theorem block_eq {c : Cs} {s : List Nat} (hw : ∀ ws ∈ c.mn, ws.length ≤ 10) (hs : ∀ x ∈ s, x < c.mn.length) (hl : s.length ≤ 1000) : F_block_of_case [csD c, natT s] = .ok (bkD (bkF c s)) := Rs.eq (by
  refine rs_run ?_
  unfold Fb_block_of_case
  show Ss (seqF _ _ [some (csD c), some (natT s), none, none, none, none, none, none, none, none]) _ _ _ _ _
  refine ss_seq (ss_cut (fun z => z = bcR c s none none none none none) ?_ ?_)
  · exact ss_par3 (rs_op (rs_var rfl (rs_c (rs_cs 4 rfl (rs_op (rs_var rfl (rs_c (rs_cs 5 rfl (rs_op (rs_var rfl (rs_c (rs_cs 6 rfl rfl))))))))))))
  rintro _ rfl
  refine ss_seq (ss_cut (fun z => z = bcR c s (some (.lst ([].map pcD))) none none none none) ?_ ?_)
  · array_get_dec
    rfl
  rintro _ rfl
  refine ss_seq (ss_cut (fun z => ∃ x6 x7 x8 x9, z = bcR c s (some (.lst ((psF c s s.length).map pcD))) x6 x7 x8 x9) ?_ ?_)
  · refine ss_rng s.length (fun i z => ∃ x6 x7 x8 x9, z = bcR c s (some (.lst ((psF c s i).map pcD))) x6 x7 x8 x9) ?_ (by omega) ⟨none, none, none, none, rfl⟩ ?_ ?_
    · array_get_dec
      rw [List.length_map]
    · rintro i z hi ⟨x6, x7, x8, x9, rfl⟩
      have hpl := psF_len hw s i
      have hsx : s.getD i 0 < c.mn.length := hs _ (getD_mem hi)
      obtain ⟨ws, hws⟩ : ∃ ws, c.mn.getD (s.getD i 0) [] = ws := ⟨_, rfl⟩
      have hwl : ws.length ≤ 10 := hws ▸ hw _ (getD_mem hsx)
      rw [psF_step c s i hws]
      obtain ⟨l, hlb⟩ : ∃ l, decide (i + 1 = s.length) = l := ⟨_, rfl⟩
      rw [hlb]
      obtain ⟨ps, hps⟩ : ∃ ps, psF c s i = ps := ⟨_, rfl⟩
      rw [hps] at hpl ⊢
      show Ss (Lp_block_of_case_2 (bcR c s (some (.lst (ps.map pcD))) (some (.int (i : Int))) x7 x8 x9)) _ _ _ _ _
      unfold Lp_block_of_case_2
      refine ss_seq (ss_cut (fun z => z = bcR c s (some (.lst (ps.map pcD))) (some (.int (i : Int))) (some (iT ws)) x8 x9) ?_ ?_)
      · refine ss_set (rs_op (rs_var rfl (rs_op (rs_var rfl (rs_var rfl (rs_nat hi (rs_mnu hsx ?_)))))))
        rw [hws]
        rfl
      rintro _ rfl
      refine ss_rng ws.length (fun j z => ∃ x8 x9, z = bcR c s (some (.lst ((ps ++ (List.range j).map (pcOf c ws l)).map pcD))) (some (.int (i : Int))) (some (iT ws)) x8 x9) ?_ (by omega) ⟨x8, x9, by rw [List.range_zero, List.map_nil, List.append_nil]⟩ ?_ ?_
      · refine rs_call (rs_cons (rs_var rfl (rs_nil (rs_lenT ?_))))
        rw [List.length_map]
      · rintro j z hj ⟨x8, x9, rfl⟩
        rw [mid_step]
        have hql : (ps ++ (List.range j).map (pcOf c ws l)).length ≤ 20000 := by rw [List.length_append, List.length_map, List.length_range]; omega
        generalize ps ++ (List.range j).map (pcOf c ws l) = qs at hql
        show Ss (Lp_block_of_case_1 (bcR c s (some (.lst (qs.map pcD))) (some (.int (i : Int))) (some (iT ws)) (some (.int (j : Int))) x9)) _ _ _ _ _
        unfold Lp_block_of_case_1
        refine ss_seq (ss_cut (fun z => z = bcR c s (some (.lst (qs.map pcD))) (some (.int (i : Int))) (some (iT ws)) (some (.int (j : Int))) (some (.tup (tieL (pcOf c ws l j))))) ?_ ?_)
        · refine ss_if (rs_T (rs_op (rs_var rfl (rs_op (rs_call (rs_cons (rs_var rfl (rs_nil (rs_lenT (rs_c (rs_sub (rs_lt (rs_asB ?_)))))))))))))
          rw [List.length_map]
          by_cases h : j + 1 < ws.length
          · refine ⟨fun _ => ?_, fun z => absurd (of_decide_eq_false z) (by omega)⟩
            rw [tie_j c l h]
            array_get_dec
            rfl
          · refine ⟨fun z => absurd (of_decide_eq_true z) (by omega), fun _ => ?_⟩
            refine ss_if (rs_T (rs_op (rs_var rfl (rs_op (rs_call (rs_cons (rs_var rfl (rs_nil (rs_lenT (rs_c (rs_sub (rs_lt (rs_asB ?_)))))))))))))
            rw [List.length_map]
            by_cases h2 : i + 1 = s.length
            · refine ⟨fun z => absurd (of_decide_eq_true z) (by omega), fun _ => ?_⟩
              rw [← hlb, decide_eq_true h2, tie_e c h]
              array_get_dec
              rfl
            · refine ⟨fun _ => ?_, fun z => absurd (of_decide_eq_false z) (by omega)⟩
              rw [← hlb, decide_eq_false h2, tie_b c h]
              array_get_dec
              rfl
        rintro _ rfl
        refine ss_app (ds := qs.map pcD) rfl ?_
        refine rs_tup (rs_cons (rs_op (rs_var rfl (rs_var rfl (rs_wid hj (rs_cons (rs_var rfl (rs_cons (rs_tup (rs_nil ⟨Nat.le_of_ble_eq_true rfl, rs_cons (rs_tup (rs_nil ⟨Nat.le_of_ble_eq_true rfl, rs_nil ⟨Nat.le_of_ble_eq_true rfl, ?_, ?_⟩⟩))⟩))))))))))
        · rw [List.length_map]
          exact Nat.lt_of_lt_of_le (show qs.length < 100000 by omega) sz5
        · refine ⟨some (.int (j : Int)), some (.tup (tieL (pcOf c ws l j))), ?_⟩
          rw [List.map_append]
          rfl
      · rintro z ⟨x8, x9, rfl⟩
        exact ⟨_, _, x8, x9, rfl⟩
    · rintro z hz
      exact hz
  rintro _ ⟨x6, x7, x8, x9, rfl⟩
  refine ss_ret (rs_tup (rs_cons (rs_op (rs_var rfl (rs_c (rs_cs 0 rfl (rs_cons (rs_op (rs_var rfl (rs_c (rs_cs 1 rfl (rs_cons (rs_op (rs_var rfl (rs_c (rs_cs 2 rfl (rs_cons (rs_op (rs_var rfl (rs_c (rs_cs 3 rfl ?_)))))))))))))))))))))
  exact rs_cons (rs_call (rs_cons (rs_var rfl (rs_nil (rs_tupL (rs_nil ⟨Nat.le_of_ble_eq_true rfl, rfl⟩)))))))
end
section
theorem ss_eachG {N B C : Rho → Prop} {R : D → Prop} {E : Rho → Str → List Str → List D → Prop} {r : Rho} {α : Type} {t : D → Rho → Res Rho} {f : Rho → Res D} {F : Rho → SR} (g : α → D) (xs : List α) (I : Nat → Rho → Prop) (h : Rs (f r) (fun d => d = .tup (xs.map g)) (E r)) (h0 : I 0 r) (hs : ∀ i x r, xs[i]? = some x → I i r → ∃ r1, t (g x) r = .ok r1 ∧ Ss (F r1) (I (i + 1)) R N (I (i + 1)) E) (he : ∀ r, I xs.length r → N r) : Ss (forF (dIt itemsT f) t F r) N R B C E :=
  ss_for I (rs_it (h.impE (fun d q => by
    subst q
    refine rs_itsT ⟨h0, fun i d r h1 h2 => ?_, fun r h => he r (by rw [List.length_map] at h; exact h)⟩
    rw [List.getElem?_map] at h1
    cases hx : xs[i]? with
    | none => rw [hx] at h1; cases h1
    | some x => rw [hx] at h1; cases h1; exact hs i x r hx h2) fun _ _ _ z => z))
def bksF (cs : List Cs) (T : Tl) : List Bk := T.map fun p => bkF (cs.getD p.1 default) p.2
structure TOk (cs : List Cs) (T : Tl) : Prop where
  p : ∀ p ∈ T, p.1 < cs.length ∧ p.2.length ≤ 1000 ∧ ∀ x ∈ p.2, x < mc cs p.1
  l : T.length ≤ 1000
  n : lenT T ≤ 100
def Wid (cs : List Cs) : Prop := ∀ c ∈ cs, ∀ ws ∈ c.mn, ws.length ≤ 10
abbrev lbR (cs : List Cs) (T : Tl) (x2 x3 x4 x5 x6 x7 x8 x9 x10 : Option D) : Rho := [some (.tup (cs.map csD)), some (tlD T), x2, x3, x4, x5, x6, x7, x8, x9, x10]
theorem blocks_eq {cs : List Cs} {T : Tl} (hw : Wid cs) (hT : TOk cs T) : F_l_blocks [.tup (cs.map csD), tlD T] = .ok (bL (bksF cs T)) := Rs.eq (by
  refine rs_run ?_
  unfold Fb_l_blocks
  show Ss (seqF _ _ (lbR cs T none none none none none none none none none)) _ _ _ _ _
  refine ss_seq (ss_cut (fun z => z = lbR cs T (some (bL [])) none none none none none none none none) ?_ ?_)
  · array_get_dec
    rfl
  rintro _ rfl
  refine ss_seq (ss_cut (fun z => ∃ x3 x4 x5 x6 x7 x8 x9 x10, z = lbR cs T (some (bL (bksF cs T))) x3 x4 x5 x6 x7 x8 x9 x10) ?_ ?_)
  · refine ss_eachG blkT T (fun a z => ∃ x3 x4 x5 x6 x7 x8 x9 x10, z = lbR cs T (some (bL (bksF cs (T.take a)))) x3 x4 x5 x6 x7 x8 x9 x10) ?_ ⟨none, none, none, none, none, none, none, none, rfl⟩ ?_ ?_
    · array_get_dec
      rfl
    · rintro a p z ha ⟨x3, x4, x5, x6, x7, x8, x9, x10, rfl⟩
      obtain ⟨hcl, hl, hs⟩ := hT.p p (List.mem_of_getElem? ha)
      have hal := (List.getElem?_eq_some_iff.mp ha).1
      have hTl := hT.l
      have hbs : bksF cs (T.take (a + 1)) = bksF cs (T.take a) ++ [bkF (cs.getD p.1 default) p.2] := by unfold bksF; rw [take_snoc ha, List.map_append]; rfl
      have hbl : (bksF cs (T.take a)).length ≤ 1000 := by unfold bksF; rw [List.length_map, List.length_take]; omega
      rw [hbs]
      generalize bksF cs (T.take a) = bs at hbl
      obtain ⟨q, s⟩ := p
      have hcw : ∀ ws ∈ (cs.getD q default).mn, ws.length ≤ 10 := hw _ (getD_mem hcl)
      refine ⟨_, rfl, ?_⟩
      show Ss (Lp_l_blocks_3 (lbR cs T (some (bL bs)) (some (.int (q : Int))) (some (natT s)) x5 x6 x7 x8 x9 x10)) _ _ _ _ _
      unfold Lp_l_blocks_3
      refine ss_seq (ss_cut (fun z => z = lbR cs T (some (bL bs)) (some (.int (q : Int))) (some (natT s)) (some (csD (cs.getD q default))) x6 x7 x8 x9 x10) ?_ ?_)
      · exact ss_set (rs_op (rs_var rfl (rs_var rfl (rs_case hcl rfl))))
      rintro _ rfl
      have hs : ∀ x ∈ s, x < (cs.getD q default).mn.length := hs
      have hl : s.length ≤ 1000 := hl
      show Ss _ (fun z => ∃ x3 x4 x5 x6 x7 x8 x9 x10, z = lbR cs T (some (bL (bs ++ [bkF (cs.getD q default) s]))) x3 x4 x5 x6 x7 x8 x9 x10) _ _ _ _
      generalize cs.getD q default = c at *
      refine ss_seq (ss_cut (fun z => z = lbR cs T (some (bL bs)) (some (.int (q : Int))) (some (natT s)) (some (csD c)) (some (.lst ([].map pcD))) x7 x8 x9 x10) ?_ ?_)
      · array_get_dec
        rfl
      rintro _ rfl
      refine ss_seq (ss_cut (fun z => ∃ x7 x8 x9 x10, z = lbR cs T (some (bL bs)) (some (.int (q : Int))) (some (natT s)) (some (csD c)) (some (.lst ((psF c s s.length).map pcD))) x7 x8 x9 x10) ?_ ?_)
      · refine ss_rng s.length (fun i z => ∃ x7 x8 x9 x10, z = lbR cs T (some (bL bs)) (some (.int (q : Int))) (some (natT s)) (some (csD c)) (some (.lst ((psF c s i).map pcD))) x7 x8 x9 x10) ?_ (by omega) ⟨x7, x8, x9, x10, rfl⟩ ?_ ?_
        · array_get_dec
          rw [List.length_map]
        · rintro i z hi ⟨x7, x8, x9, x10, rfl⟩
          have hpl := psF_len hcw s i
          have hsx : s.getD i 0 < c.mn.length := hs _ (getD_mem hi)
          obtain ⟨ws, hws⟩ : ∃ ws, c.mn.getD (s.getD i 0) [] = ws := ⟨_, rfl⟩
          have hwl : ws.length ≤ 10 := hws ▸ hcw _ (getD_mem hsx)
          rw [psF_step c s i hws]
          obtain ⟨l, hlb⟩ : ∃ l, decide (i + 1 = s.length) = l := ⟨_, rfl⟩
          rw [hlb]
          obtain ⟨ps, hps⟩ : ∃ ps, psF c s i = ps := ⟨_, rfl⟩
          rw [hps] at hpl ⊢
          show Ss (Lp_l_blocks_2 (lbR cs T (some (bL bs)) (some (.int (q : Int))) (some (natT s)) (some (csD c)) (some (.lst (ps.map pcD))) (some (.int (i : Int))) x8 x9 x10)) _ _ _ _ _
          unfold Lp_l_blocks_2
          refine ss_seq (ss_cut (fun z => z = lbR cs T (some (bL bs)) (some (.int (q : Int))) (some (natT s)) (some (csD c)) (some (.lst (ps.map pcD))) (some (.int (i : Int))) (some (iT ws)) x9 x10) ?_ ?_)
          · refine ss_set (rs_op (rs_op (rs_var rfl (rs_c (rs_menu (rs_op (rs_var rfl (rs_var rfl (rs_nat hi (rs_mnu hsx ?_))))))))))
            rw [hws]
            rfl
          rintro _ rfl
          refine ss_rng ws.length (fun j z => ∃ x9 x10, z = lbR cs T (some (bL bs)) (some (.int (q : Int))) (some (natT s)) (some (csD c)) (some (.lst ((ps ++ (List.range j).map (pcOf c ws l)).map pcD))) (some (.int (i : Int))) (some (iT ws)) x9 x10) ?_ (by omega) ⟨x9, x10, by rw [List.range_zero, List.map_nil, List.append_nil]⟩ ?_ ?_
          · refine rs_call (rs_cons (rs_var rfl (rs_nil (rs_lenT ?_))))
            rw [List.length_map]
          · rintro j z hj ⟨x9, x10, rfl⟩
            rw [mid_step]
            have hql : (ps ++ (List.range j).map (pcOf c ws l)).length ≤ 20000 := by rw [List.length_append, List.length_map, List.length_range]; omega
            generalize ps ++ (List.range j).map (pcOf c ws l) = qs at hql
            show Ss (Lp_l_blocks_1 (lbR cs T (some (bL bs)) (some (.int (q : Int))) (some (natT s)) (some (csD c)) (some (.lst (qs.map pcD))) (some (.int (i : Int))) (some (iT ws)) (some (.int (j : Int))) x10)) _ _ _ _ _
            unfold Lp_l_blocks_1
            refine ss_seq (ss_cut (fun z => z = lbR cs T (some (bL bs)) (some (.int (q : Int))) (some (natT s)) (some (csD c)) (some (.lst (qs.map pcD))) (some (.int (i : Int))) (some (iT ws)) (some (.int (j : Int))) (some (.tup [.str (Sg sJo), .int c.hy]))) ?_ ?_)
            · exact ss_set (rs_tup (rs_cons (rs_c (rs_cons (rs_op (rs_var rfl (rs_c (rs_cs 5 rfl (rs_nil ⟨Nat.le_of_ble_eq_true rfl, rfl⟩)))))))))
            rintro _ rfl
            refine ss_seq (ss_cut (fun z => z = lbR cs T (some (bL bs)) (some (.int (q : Int))) (some (natT s)) (some (csD c)) (some (.lst (qs.map pcD))) (some (.int (i : Int))) (some (iT ws)) (some (.int (j : Int))) (some (.tup (tieL (pcOf c ws (l && false) j))))) ?_ ?_)
            · refine ss_if (rs_T (rs_op (rs_var rfl (rs_op (rs_call (rs_cons (rs_var rfl (rs_nil (rs_lenT (rs_c (rs_sub (rs_eqI (rs_asB ?_)))))))))))))
              rw [List.length_map, Bool.and_false]
              by_cases h : j + 1 < ws.length
              · refine ⟨fun z => absurd (of_decide_eq_true z) (by omega), fun _ => ?_⟩
                rw [tie_j c false h]
                exact ss_nx rfl
              · refine ⟨fun _ => ?_, fun z => absurd (of_decide_eq_false z) (by omega)⟩
                rw [tie_b c h]
                exact ss_set (rs_tup (rs_cons (rs_c (rs_cons (rs_op (rs_var rfl (rs_c (rs_cs 4 rfl (rs_nil ⟨Nat.le_of_ble_eq_true rfl, rfl⟩)))))))))
            rintro _ rfl
            refine ss_seq (ss_cut (fun z => z = lbR cs T (some (bL bs)) (some (.int (q : Int))) (some (natT s)) (some (csD c)) (some (.lst (qs.map pcD))) (some (.int (i : Int))) (some (iT ws)) (some (.int (j : Int))) (some (.tup (tieL (pcOf c ws l j))))) ?_ ?_)
            · rw [Bool.and_false]
              refine ss_if (rs_andc (rs_T (rs_op (rs_var rfl (rs_op (rs_call (rs_cons (rs_var rfl (rs_nil (rs_lenT (rs_c (rs_sub (rs_eqI (rs_asB ?_))))))))))))))
              rw [List.length_map]
              by_cases h : j + 1 < ws.length
              · refine ⟨fun z => absurd (of_decide_eq_true z) (by omega), fun _ => ⟨fun z => (by cases z), fun _ => ss_nx ?_⟩⟩
                rw [tie_j c l h, tie_j c false h]
              · refine ⟨fun _ => ?_, fun z => absurd (of_decide_eq_false z) (by omega)⟩
                refine rs_T (rs_op (rs_var rfl (rs_op (rs_call (rs_cons (rs_var rfl (rs_nil (rs_lenT (rs_c (rs_sub (rs_eqI (rs_asB ?_))))))))))))
                rw [List.length_map]
                by_cases h2 : i + 1 = s.length
                · refine ⟨fun _ => ?_, fun z => absurd (of_decide_eq_false z) (by omega)⟩
                  rw [← hlb, decide_eq_true h2, tie_e c h]
                  array_get_dec
                  rfl
                · refine ⟨fun z => absurd (of_decide_eq_true z) (by omega), fun _ => ss_nx ?_⟩
                  rw [← hlb, decide_eq_false h2]
            rintro _ rfl
            refine ss_app (ds := qs.map pcD) rfl ?_
            refine rs_tup (rs_cons (rs_op (rs_var rfl (rs_var rfl (rs_wid hj (rs_cons (rs_var rfl (rs_cons (rs_tup (rs_nil ⟨Nat.le_of_ble_eq_true rfl, rs_cons (rs_tup (rs_nil ⟨Nat.le_of_ble_eq_true rfl, rs_nil ⟨Nat.le_of_ble_eq_true rfl, ?_, ?_⟩⟩))⟩))))))))))
            · rw [List.length_map]
              exact Nat.lt_of_lt_of_le (show qs.length < 100000 by omega) sz5
            · refine ⟨some (.int (j : Int)), some (.tup (tieL (pcOf c ws l j))), ?_⟩
              rw [List.map_append]
              rfl
          · rintro z ⟨x9, x10, rfl⟩
            exact ⟨_, _, x9, x10, rfl⟩
        · rintro z hz
          exact hz
      rintro _ ⟨x7, x8, x9, x10, rfl⟩
      refine ss_app (ds := bs.map bkD) rfl ?_
      refine rs_tup (rs_cons (rs_op (rs_var rfl (rs_c (rs_cs 0 rfl (rs_cons (rs_op (rs_var rfl (rs_c (rs_cs 1 rfl (rs_cons (rs_op (rs_var rfl (rs_c (rs_cs 2 rfl (rs_cons (rs_op (rs_var rfl (rs_c (rs_cs 3 rfl ?_))))))))))))))))))))
      refine rs_cons (rs_call (rs_cons (rs_var rfl (rs_nil (rs_tupL (rs_nil ⟨Nat.le_of_ble_eq_true rfl, ?_, ?_⟩))))))
      · rw [List.length_map]
        exact Nat.lt_of_lt_of_le (show bs.length < 100000 by omega) sz5
      · refine ⟨some (.int (q : Int)), some (natT s), some (csD c), some (.lst ((psF c s s.length).map pcD)), x7, x8, x9, x10, ?_⟩
        unfold bL
        rw [List.map_append]
        rfl
    · rintro z ⟨x3, x4, x5, x6, x7, x8, x9, x10, rfl⟩
      rw [List.take_length]
      exact ⟨_, _, _, _, _, _, _, _, rfl⟩
  rintro _ ⟨x3, x4, x5, x6, x7, x8, x9, x10, rfl⟩
  exact ss_ret (rs_var rfl rfl))
end
section
theorem wid_at {cs : List Cs} (hw : Wid cs) (c : Nat) : ∀ ws ∈ (cs.getD c default).mn, ws.length ≤ 10 := by
  by_cases h : c < cs.length
  · exact hw _ (getD_mem h)
  · rw [List.getD_eq_getElem?_getD, List.getElem?_eq_none (by omega)]
    intro ws hws
    cases hws
theorem bks_pcs {cs : List Cs} (hw : Wid cs) : ∀ T : Tl, (pieces (bksF cs T)).length ≤ 10 * lenT T
  | [] => Nat.zero_le _
  | p :: T => by
    have h1 := bks_pcs hw T
    have h2 := psF_len (wid_at hw p.1) p.2 p.2.length
    show (pieces (bkF (cs.getD p.1 default) p.2 :: bksF cs T)).length ≤ _
    rw [pieces_cons, List.length_append]
    unfold lenT at h1 ⊢
    rw [sm_cons]
    show (psF (cs.getD p.1 default) p.2 p.2.length).length + _ ≤ _
    omega
theorem nosub {cs : List Cs} {T : Tl} {p : Pc} (h : p ∈ pieces (bksF cs T)) : p.ns = [] ∧ p.cs = [] := by
  obtain ⟨b, hb, hp⟩ := List.mem_flatMap.mp h
  obtain ⟨q, _, rfl⟩ := List.mem_map.mp hb
  obtain ⟨i, _, hp⟩ := List.mem_flatMap.mp hp
  obtain ⟨j, _, rfl⟩ := List.mem_map.mp hp
  exact ⟨rfl, rfl⟩
theorem bks_figs (cs : List Cs) (T : Tl) : figs (bksF cs T) = [] := List.flatMap_eq_nil_iff.mpr fun _ h => (nosub h).2
abbrev gNm : List Str := ["blocks", "spans", "all_pieces", "all_figures"]
theorem long_eq {bs : List Bk} (h1 : (pieces bs).length ≤ 1000) (h2 : bs.length ≤ 1000) (h3 : (figs bs).length ≤ 1000) : F_long_galley [bL bs] = .ok (galD bs) := Rs.eq (by
  refine rs_runT ?_
  unfold Fb_long_galley
  show Ss (seqF _ _ [some (bL bs), none]) _ _ _ _ _
  refine ss_seq (ss_set (Rs.of ginit0 ?_))
  refine ss_seq (ss_fst (ns := gNm) (vs := [.lst [], .lst [], .lst [], .lst []]) ?_)
  refine rs_call (rs_cons (rs_var rfl (rs_nil (rs_listL ⟨rfl, by decide, ?_⟩))))
  refine ss_seq (ss_fst (ns := gNm) (vs := [bL bs, .lst [], .lst [], .lst []]) ?_)
  refine rs_call (rs_cons (rs_var rfl (rs_nil (Rs.of (spans_eq bs (.inl rfl) h1 h2) ⟨rfl, by decide, ?_⟩))))
  refine ss_seq (ss_fst (ns := gNm) (vs := [bL bs, .lst ((flL bs).map spnD), .lst [], .lst []]) ?_)
  refine rs_call (rs_cons (rs_var rfl (rs_nil (Rs.of (pcs_eq bs (.inl rfl) h1) ⟨rfl, by decide, ?_⟩))))
  refine ss_seq (ss_fst (ns := gNm) (vs := [bL bs, .lst ((flL bs).map spnD), .lst ((pieces bs).map pcD), .lst []]) ?_)
  refine rs_call (rs_cons (rs_var rfl (rs_nil (Rs.of (figs_eq bs (.inl rfl) h1 h3) ⟨rfl, by decide, ?_⟩))))
  exact ss_ret (rs_var rfl rfl))
theorem galley_eq {cs : List Cs} {X : List Nat} {fo : List (List Nat)} {T : Tl} (hw : Wid cs) (hT : TOk cs T) : F_Family_galley_of [famD cs X fo, tlD T] = .ok (galD (bksF cs T)) := Rs.eq (by
  have hl := hT.l
  have hn := hT.n
  have hp := bks_pcs hw T
  have e : (T.map fun p => bkD (bkF (cs.getD p.1 default) p.2)) = (bksF cs T).map bkD := by unfold bksF; rw [List.map_map]; rfl
  refine rs_run ?_
  unfold Fb_Family_galley_of
  show Ss (retF _ [some (famD cs X fo), some (tlD T), none, none]) _ _ _ _ _
  refine ss_ret (rs_call (rs_cons (rs_lc blkT (fun p => bkD (bkF (cs.getD p.1 default) p.2)) T (rs_it (rs_var rfl (rs_itsT rfl))) (Nat.le_trans hl (Nat.le_trans (by decide) sz5)) ?_ (rs_nil ?_))))
  · rintro ⟨q, s⟩ hq
    obtain ⟨a1, a2, a3⟩ := hT.p _ hq
    refine ⟨_, rfl, rfl, ?_⟩
    exact rs_call (rs_cons (rs_op (rs_un (rs_var rfl (rs_cases (rs_var rfl (rs_case a1 (rs_cons (rs_var rfl (rs_nil (Rs.of (block_eq (hw _ (getD_mem a1)) a3 a2) rfl)))))))))))
  · rw [e]
    refine Rs.of (long_eq (bs := bksF cs T) (by omega) ?_ ?_) rfl
    · unfold bksF
      rw [List.length_map]
      exact hl
    · rw [bks_figs]
      exact Nat.zero_le _)
theorem same_ints (n : Nat) (ns : List Int) (h : ns.length ≤ 10000) : F_l_same (n + 2) [iT ns, iT ns] = .ok (.bl true) := same_tup (n + 1) _ (by rw [List.length_map]; exact h) fun d hd => by
  obtain ⟨i, _, rfl⟩ := List.mem_map.mp hd
  exact same_int n i
theorem same_nats (n : Nat) (ns : List Nat) (h : ns.length ≤ 10000) : F_l_same (n + 2) [natT ns, natT ns] = .ok (.bl true) := same_tup (n + 1) _ (by rw [List.length_map]; exact h) fun d hd => by
  obtain ⟨i, _, rfl⟩ := List.mem_map.mp hd
  exact same_int n _
theorem same_pc (n : Nat) (p : Pc) (hn : p.ns.length ≤ 10000) (hc : p.cs.length ≤ 10000) : F_l_same (n + 3) [pcD p, pcD p] = .ok (.bl true) := same_tup (n + 2) _ (by simp) fun d hd => by
  simp only [List.mem_cons, List.not_mem_nil, or_false] at hd
  rcases hd with rfl | rfl | rfl | rfl
  · exact same_int (n + 1) _
  · refine same_tup (n + 1) _ ?_ fun d hd => ?_
    · unfold tieL; split <;> simp
    · unfold tieL at hd
      split at hd
      · rw [List.mem_singleton.mp hd]; exact same_str n _
      · simp only [List.mem_cons, List.not_mem_nil, or_false] at hd
        rcases hd with rfl | rfl
        · exact same_str n _
        · exact same_int n _
  · exact same_ints n _ hn
  · exact same_ints n _ hc
theorem mem_ps {bs : List Bk} {b : Bk} (h : b ∈ bs) : b.ps.length ≤ (pieces bs).length := by
  obtain ⟨s, t, rfl⟩ := List.append_of_mem h
  rw [pieces_app, pieces_cons, List.length_append, List.length_append]
  omega
theorem same_bks (n : Nat) {cs : List Cs} {T : Tl} (hw : Wid cs) (hT : TOk cs T) : F_l_same (n + 6) [bL (bksF cs T), bL (bksF cs T)] = .ok (.bl true) := same_lst (n + 5) _ (by unfold bksF; rw [List.length_map, List.length_map]; exact Nat.le_trans hT.l (by decide)) fun d hd => by
  have hn := hT.n
  have hp := bks_pcs hw T
  obtain ⟨b, hb, rfl⟩ := List.mem_map.mp hd
  refine same_tup (n + 4) _ (by simp) fun d hd => ?_
  simp only [List.mem_cons, List.not_mem_nil, or_false] at hd
  rcases hd with rfl | rfl | rfl | rfl | rfl
  · exact same_int (n + 3) _
  · exact same_int (n + 3) _
  · exact same_int (n + 3) _
  · exact same_bl (n + 3) _
  · refine same_tup (n + 3) _ ?_ fun d hd => ?_
    · have := mem_ps hb
      rw [List.length_map]
      omega
    · obtain ⟨p, hp, rfl⟩ := List.mem_map.mp hd
      obtain ⟨e1, e2⟩ := nosub (List.mem_flatMap.mpr ⟨b, hb, hp⟩)
      exact same_pc n p (by rw [e1]; exact Nat.zero_le _) (by rw [e2]; exact Nat.zero_le _)
theorem rs_isG {bs : List Bk} {Q : D → Prop} {E : Str → List Str → List D → Prop} (q : Q (.bl true)) : Rs (isiO "Galley" (galD bs)) Q E := by
  unfold isiO
  rw [if_pos (show isCls "Galley" (galD bs) = true from isCls_self)]; exact q
theorem pcs_sum : ∀ bs : List Bk, (bs.map fun b => (b.ps.length : Int)).sum = ((pieces bs).length : Int)
  | [] => rfl
  | b :: bs => by rw [List.map_cons, List.sum_cons, pcs_sum bs, pieces_cons, List.length_append, Int.natCast_add]
theorem galley_is_eq {cs : List Cs} {T : Tl} (hw : Wid cs) (hT : TOk cs T) : F_l_galley_is [galD (bksF cs T), bL (bksF cs T)] = .ok (.bl true) := Rs.eq (by
  have hl : (bksF cs T).length ≤ 1000 := by unfold bksF; rw [List.length_map]; exact hT.l
  have hn := hT.n
  have hp := bks_pcs hw T
  have hs := same_bks 2 hw hT
  generalize bksF cs T = bs at *
  refine rs_run ?_
  unfold Fb_l_galley_is
  show Ss (seqF _ _ [some (galD bs), some (bL bs), none]) _ _ _ _ _
  refine ss_seq (ss_cut (fun z => z = [some (galD bs), some (bL bs), none]) ?_ ?_)
  · refine ss_if (rs_or (rs_not (rs_T (rs_un (rs_var rfl (rs_isG (rs_asB ?_)))))))
    refine rs_not (rs_T (rs_call (rs_cons (rs_call (rs_cons (rs_var rfl (rs_nil ?_)))))))
    refine rs_listO (ds := bs.map bkD) (es := (pieces bs).map pcD) rfl rfl (by rw [List.length_map]; exact Nat.le_trans (show bs.length ≤ 100000 by omega) sz5) (by rw [List.length_map]; exact Nat.le_trans (show (pieces bs).length ≤ 100000 by omega) sz5) ?_
    refine rs_cons (rs_var rfl (rs_nil (Rs.of hs (rs_asB ?_))))
    exact ⟨fun c => (by cases c), fun _ => ss_nx rfl⟩
  rintro _ rfl
  refine ss_ret (rs_op (rs_call (rs_cons (rs_var rfl (rs_nil (rs_lenO (glen bs) ⟨by omega, by omega⟩ ?_))))))
  refine rs_call (rs_cons (rs_lc bkD (fun b => .int (b.ps.length : Int)) bs (rs_it (rs_var rfl (rs_itsL rfl))) (Nat.le_trans (show bs.length ≤ 100000 by omega) sz5) ?_ (rs_nil ?_)))
  · intro b _
    refine ⟨_, rfl, rfl, ?_⟩
    refine rs_call (rs_cons (rs_op (rs_var rfl (rs_c (rs_ixc (ds := [.int b.h, .int b.ind, .int b.bef, .bl b.kp, .tup (b.ps.map pcD)]) 4 rfl (rs_nil (rs_lenT ?_)))))))
    rw [List.length_map]
  · have e : (bs.map fun b => D.int (b.ps.length : Int)) = (bs.map fun b => (b.ps.length : Int)).map D.int := by rw [List.map_map]; rfl
    rw [e]
    refine rs_sum (rs_eqI ?_)
    rw [pcs_sum]
    simp)
theorem fam_eq {cs : List Cs} {X : List Nat} {fo : List (List Nat)} (hfl : fo.length ≤ 1000) : F_Family_init [.tup (cs.map csD), natT X, .tup (fo.map natT)] = .ok (famD cs X fo) := Rs.eq (by
  refine rs_runI ?_
  unfold Fb_Family_init
  refine ss_seq (ss_fst (ns := []) (vs := []) ?_)
  refine rs_call (rs_cons (rs_var rfl (rs_nil (rs_tupT ⟨rfl, by decide, ?_⟩))))
  refine ss_seq (ss_fst (ns := ["cases"]) (vs := [.tup (cs.map csD)]) ?_)
  refine rs_call (rs_cons (rs_var rfl (rs_nil (rs_tupT ⟨rfl, by decide, ?_⟩))))
  refine ss_fst (ns := ["cases", "firsts"]) (vs := [.tup (cs.map csD), natT X]) ?_
  refine rs_call (rs_cons (rs_lc natT natT fo (rs_it (rs_var rfl (rs_itsT rfl))) (Nat.le_trans hfl (Nat.le_trans (by decide) sz5)) (fun x _ => ⟨_, rfl, rfl, rs_call (rs_cons (rs_var rfl (rs_nil (rs_tupT rfl))))⟩) (rs_nil (rs_tupL ⟨rfl, by decide, _, rfl, rfl⟩)))))
theorem same_cs (n : Nat) (c : Cs) (h1 : c.mn.length ≤ 10000) (h2 : ∀ ws ∈ c.mn, ws.length ≤ 10) : F_l_same (n + 4) [csD c, csD c] = .ok (.bl true) := same_tup (n + 3) _ (by simp) fun d hd => by
  simp only [List.mem_cons, List.not_mem_nil, or_false] at hd
  rcases hd with rfl | rfl | rfl | rfl | rfl | rfl | rfl
  · exact same_int (n + 2) _
  · exact same_int (n + 2) _
  · exact same_int (n + 2) _
  · exact same_bl (n + 2) _
  · exact same_int (n + 2) _
  · exact same_int (n + 2) _
  · refine same_tup (n + 2) _ (by rw [List.length_map]; exact h1) fun d hd => ?_
    obtain ⟨ws, hws, rfl⟩ := List.mem_map.mp hd
    exact same_ints n ws (Nat.le_trans (h2 ws hws) (by decide))
theorem same_fam {cs : List Cs} {X : List Nat} {fo : List (List Nat)} (hf : FOk cs fo) (hw : Wid cs) (hX : X.length ≤ 10000) (hc : cs.length ≤ 1000) : F_l_same 8 [.lst [.tup (cs.map csD), natT X, .tup (fo.map natT)], .lst [.tup (cs.map csD), natT X, .tup (fo.map natT)]] = .ok (.bl true) := same_lst 7 _ (by simp) fun d hd => by
  simp only [List.mem_cons, List.not_mem_nil, or_false] at hd
  rcases hd with rfl | rfl | rfl
  · refine same_tup 6 _ (by rw [List.length_map]; omega) fun d hd => ?_
    obtain ⟨c, hc, rfl⟩ := List.mem_map.mp hd
    exact same_cs 2 c (Nat.le_trans (hf.m c hc) (by decide)) (hw c hc)
  · exact same_nats 5 X hX
  · refine same_tup 6 _ (by rw [List.length_map, hf.l]; omega) fun d hd => ?_
    obtain ⟨Y, hY, rfl⟩ := List.mem_map.mp hd
    exact same_nats 4 Y (Nat.le_trans (Nat.le_of_lt (hf.s Y hY).1) (by decide))
end
section
theorem map_at {α β : Type} {g : α → β} {xs : List α} {i : Nat} {x : α} (h : xs[i]? = some x) : (xs.map g)[i]? = some (g x) := by rw [List.getElem?_map, h]; rfl
abbrev kI (k : Nat) : D := .int (k : Int)
theorem some_sp (b : Int) (m : Nat) (t : Int) (hm : m ≤ 3) : Rs (F_l_some [.int b, .int (m : Int), .int t]) (fun d => ∃ l : List Nat, d = natT l ∧ SubN m l) nE := by
  refine rs_run ?_
  unfold Fb_l_some
  show Ss (seqF _ _ [some (.int b), some (.int (m : Int)), some (.int t), none, none]) _ _ _ _ _
  refine ss_seq (ss_cut (fun z => z = [some (.int b), some (.int (m : Int)), some (.int t), some (.lst []), none]) ?_ ?_)
  · array_get_dec
    rfl
  rintro _ rfl
  refine ss_seq (ss_cut (fun z => ∃ (l : List Nat) (x4 : Option D), z = [some (.int b), some (.int (m : Int)), some (.int t), some (.lst (l.map kI)), x4] ∧ (∀ k ∈ l, k < m) ∧ l.length ≤ m) ?_ ?_)
  · refine ss_rng m (fun i z => ∃ (l : List Nat) (x4 : Option D), z = [some (.int b), some (.int (m : Int)), some (.int t), some (.lst (l.map kI)), x4] ∧ (∀ k ∈ l, k < i) ∧ l.length ≤ i) (rs_var rfl rfl) (Nat.lt_of_le_of_lt hm (by decide)) ⟨[], none, rfl, fun k hk => (by cases hk), Nat.le_refl _⟩ ?_ (fun z h => h)
    rintro i z hi ⟨l, x4, rfl, h1, h2⟩
    show Ss (Lp_l_some_1 [some (.int b), some (.int (m : Int)), some (.int t), some (.lst (l.map kI)), some (.int (i : Int))]) _ _ _ _ _
    obtain ⟨v, hv, hvp, hvq⟩ : ∃ v : Int, atI [D.int 1, .int 2, .int 4] (i : Int) = some (.int v) ∧ 0 < v ∧ v ≤ 4 := by
      rcases (show i = 0 ∨ i = 1 ∨ i = 2 by omega) with rfl | rfl | rfl
      · exact ⟨1, rfl, by decide, by decide⟩
      · exact ⟨2, rfl, by decide, by decide⟩
      · exact ⟨4, rfl, by decide, by decide⟩
    unfold Lp_l_some_1
    array_get_dec
    refine ⟨fun _ => ?_, fun _ => ?_⟩
    · refine ss_app (ds := l.map kI) rfl ?_
      refine rs_var rfl ⟨?_, l ++ [i], some (.int (i : Int)), ?_, fun k hk => ?_, by rw [List.length_append, List.length_cons, List.length_nil]; omega⟩
      · rw [List.length_map]
        exact Nat.lt_of_le_of_lt (m := 10) (by omega) (by decide)
      · rw [List.map_append]
        rfl
      · rcases List.mem_append.mp hk with hk | hk
        · have := h1 k hk; omega
        · rw [List.mem_singleton.mp hk]; omega
    · exact ss_nx ⟨l, _, rfl, fun k hk => (by have := h1 k hk; omega), by omega⟩
  rintro _ ⟨l, x4, rfl, h1, h2⟩
  refine ss_seq (ss_cut (fun z => ∃ (l : List Nat), z = [some (.int b), some (.int (m : Int)), some (.int t), some (.lst (l.map kI)), x4] ∧ (∀ k ∈ l, k < m) ∧ l.length ≤ m) ?_ ?_)
  · refine ss_if (rs_T (rs_op (rs_var rfl (rs_c (rs_eqI (rs_asB ⟨fun _ => ?_, fun _ => ss_nx ⟨l, rfl, h1, h2⟩⟩))))))
    refine ss_set (rs_un (rs_var rfl ?_))
    show Rs (Res.ok (D.lst (l.map kI).reverse)) _ _
    refine ⟨l.reverse, ?_, fun k hk => h1 k (List.mem_reverse.mp hk), by rw [List.length_reverse]; exact h2⟩
    rw [List.map_reverse]
    rfl
  rintro _ ⟨l, rfl, h1, h2⟩
  exact ss_ret (rs_call (rs_cons (rs_var rfl (rs_nil (rs_tupL ⟨l, rfl, by omega, h1⟩)))))
structure CsOk (c : Cs) : Prop where
  n : c.mn ≠ []
  l : c.mn.length ≤ 3
  w : ∀ ws ∈ c.mn, ws.length ≤ 10
abbrev lmC : List Int := [9, 10, 10, 2, 10, 10, 3, 3, 9, 9, 9, 3, 9, 9, 9, 3, 9, 9, 9]
theorem case_sp (c : Int) : Rs (F_l_case [.int c]) (fun d => ∃ k : Cs, d = csD k ∧ CsOk k) nE := by
  refine rs_run ?_
  unfold Fb_l_case
  show Ss (seqF _ _ [some (.int c), none, none, none, none, none, none]) _ _ _ _ _
  refine ss_seq (ss_cut (fun z => z = [some (.int c), some (iL [9, 10, 10, 2, 10, 10, 3]), none, none, none, none, none]) ?_ ?_)
  · array_get_dec
    rfl
  rintro _ rfl
  refine ss_seq (ss_cut (fun z => ∃ x2, z = [some (.int c), some (iL lmC), x2, none, none, none, none]) ?_ ?_)
  · refine ss_rng 3 (fun i z => ∃ x2, z = [some (.int c), some (iL ([9, 10, 10, 2, 10, 10, 3] ++ (List.replicate i [(3 : Int), 9, 9, 9]).flatten)), x2, none, none, none, none]) (rs_c rfl) (by decide) ⟨none, rfl⟩ ?_ ?_
    · rintro i z hi ⟨x2, rfl⟩
      have e : iL ([9, 10, 10, 2, 10, 10, 3] ++ (List.replicate (i + 1) [(3 : Int), 9, 9, 9]).flatten) = .lst (([9, 10, 10, 2, 10, 10, 3] ++ (List.replicate i [(3 : Int), 9, 9, 9]).flatten).map D.int ++ [.int 3, .int 9, .int 9, .int 9]) := by
        rw [List.replicate_succ', List.flatten_append]
        show D.lst (List.map D.int ([(9 : Int), 10, 10, 2, 10, 10, 3] ++ ((List.replicate i [(3 : Int), 9, 9, 9]).flatten ++ [(3 : Int), 9, 9, 9]))) = _
        rw [← List.append_assoc, List.map_append]
        rfl
      rw [e]
      have hl : ([9, 10, 10, 2, 10, 10, 3] ++ (List.replicate i [(3 : Int), 9, 9, 9]).flatten).length ≤ 100 := by
        rcases (show i = 0 ∨ i = 1 ∨ i = 2 by omega) with rfl | rfl | rfl <;> decide
      generalize [9, 10, 10, 2, 10, 10, 3] ++ (List.replicate i [(3 : Int), 9, 9, 9]).flatten = L at hl
      show Ss (Lp_l_case_1 [some (.int c), some (.lst (L.map D.int)), some (.int (i : Int)), none, none, none, none]) _ _ _ _ _
      unfold Lp_l_case_1
      array_get_dec
      exact ⟨_, rfl⟩
    · rintro z ⟨x2, rfl⟩
      exact ⟨x2, rfl⟩
  rintro _ ⟨x2, rfl⟩
  refine ss_seq (ss_cut (fun z => ∃ vs, z = [some (.int c), some (iL lmC), x2, some (iL vs), none, none, none] ∧ Fit vs lmC) ?_ ?_)
  · array_get_dec
    refine row_of _ lmC ?_ (by decide) fun vs hf => ?_
    · intro l hl
      simp only [List.mem_cons, List.not_mem_nil, or_false] at hl
      omega
    exact ⟨vs, rfl, hf⟩
  rintro _ ⟨vs, rfl, hf⟩
  obtain ⟨LM, hLM⟩ : ∃ LM, LM = iL lmC := ⟨_, rfl⟩
  rw [← hLM]
  clear hLM
  have hpart : ∀ k : Nat, k < 3 → ∃ p0 p1 p2 p3 : Int, (vs.take (4 * k + 11)).drop (4 * k + 7) = [p0, p1, p2, p3] ∧ 0 ≤ p0 ∧ p0 < 3 := fun k hk => by
    have hg := hf
    obtain ⟨v0, _, rfl, a0, b0, hg⟩ := hg.cons
    obtain ⟨v1, _, rfl, a1, b1, hg⟩ := hg.cons
    obtain ⟨v2, _, rfl, a2, b2, hg⟩ := hg.cons
    obtain ⟨v3, _, rfl, a3, b3, hg⟩ := hg.cons
    obtain ⟨v4, _, rfl, a4, b4, hg⟩ := hg.cons
    obtain ⟨v5, _, rfl, a5, b5, hg⟩ := hg.cons
    obtain ⟨v6, _, rfl, a6, b6, hg⟩ := hg.cons
    obtain ⟨v7, _, rfl, a7, b7, hg⟩ := hg.cons
    obtain ⟨v8, _, rfl, a8, b8, hg⟩ := hg.cons
    obtain ⟨v9, _, rfl, a9, b9, hg⟩ := hg.cons
    obtain ⟨v10, _, rfl, a10, b10, hg⟩ := hg.cons
    obtain ⟨v11, _, rfl, a11, b11, hg⟩ := hg.cons
    obtain ⟨v12, _, rfl, a12, b12, hg⟩ := hg.cons
    obtain ⟨v13, _, rfl, a13, b13, hg⟩ := hg.cons
    obtain ⟨v14, _, rfl, a14, b14, hg⟩ := hg.cons
    obtain ⟨v15, _, rfl, a15, b15, hg⟩ := hg.cons
    obtain ⟨v16, _, rfl, a16, b16, hg⟩ := hg.cons
    obtain ⟨v17, _, rfl, a17, b17, hg⟩ := hg.cons
    obtain ⟨v18, _, rfl, a18, b18, hg⟩ := hg.cons
    cases hg.nil
    rcases (show k = 0 ∨ k = 1 ∨ k = 2 by omega) with rfl | rfl | rfl
    · exact ⟨_, _, _, _, rfl, a7, b7⟩
    · exact ⟨_, _, _, _, rfl, a11, b11⟩
    · exact ⟨_, _, _, _, rfl, a15, b15⟩
  obtain ⟨v0, e0, a0, b0⟩ := hf.get (k := 0) rfl
  obtain ⟨v1, e1, a1, b1⟩ := hf.get (k := 1) rfl
  obtain ⟨v2, e2, a2, b2⟩ := hf.get (k := 2) rfl
  obtain ⟨v3, e3, a3, b3⟩ := hf.get (k := 3) rfl
  obtain ⟨v4, e4, a4, b4⟩ := hf.get (k := 4) rfl
  obtain ⟨v5, e5, a5, b5⟩ := hf.get (k := 5) rfl
  obtain ⟨v6, e6, a6, b6⟩ := hf.get (k := 6) rfl
  clear hf
  have j0 : atI (vs.map D.int) 0 = some (.int v0) := (atI_nat (map_at e0) : atI (vs.map D.int) ((0 : Nat) : Int) = some (.int v0))
  have j1 : atI (vs.map D.int) 1 = some (.int v1) := (atI_nat (map_at e1) : atI (vs.map D.int) ((1 : Nat) : Int) = some (.int v1))
  have j2 : atI (vs.map D.int) 2 = some (.int v2) := (atI_nat (map_at e2) : atI (vs.map D.int) ((2 : Nat) : Int) = some (.int v2))
  have j3 : atI (vs.map D.int) 3 = some (.int v3) := (atI_nat (map_at e3) : atI (vs.map D.int) ((3 : Nat) : Int) = some (.int v3))
  have j4 : atI (vs.map D.int) 4 = some (.int v4) := (atI_nat (map_at e4) : atI (vs.map D.int) ((4 : Nat) : Int) = some (.int v4))
  have j5 : atI (vs.map D.int) 5 = some (.int v5) := (atI_nat (map_at e5) : atI (vs.map D.int) ((5 : Nat) : Int) = some (.int v5))
  have j6 : atI (vs.map D.int) 6 = some (.int v6) := (atI_nat (map_at e6) : atI (vs.map D.int) ((6 : Nat) : Int) = some (.int v6))
  refine ss_seq (ss_cut (fun z => z = [some (.int c), some LM, x2, some (iL vs), some (.lst []), none, none]) ?_ ?_)
  · array_get_dec
    rfl
  rintro _ rfl
  obtain ⟨m, hm⟩ : ∃ m : Nat, v6 + 1 = (m : Int) := ⟨(v6 + 1).toNat, by omega⟩
  refine ss_seq (ss_cut (fun z => ∃ (shs : List (List Int)) (x2 x5 : Option D), z = [some (.int c), some LM, x2, some (iL vs), some (.lst (shs.map iT)), x5, none] ∧ shs.length = m ∧ ∀ w ∈ shs, w.length ≤ 10) ?_ ?_)
  · refine ss_rng m (fun i z => ∃ (shs : List (List Int)) (x2 x5 : Option D), z = [some (.int c), some LM, x2, some (iL vs), some (.lst (shs.map iT)), x5, none] ∧ shs.length = i ∧ ∀ w ∈ shs, w.length ≤ 10) ?_ (Nat.lt_of_le_of_lt (m := 10) (by omega) (by decide)) ⟨[], x2, none, rfl, rfl, fun w hw => (by cases hw)⟩ ?_ (fun z h => h)
    · array_get_dec
      rw [hm]
    · rintro i z hi ⟨shs, x2, x5, rfl, hl, hw⟩
      obtain ⟨p0, p1, p2, p3, ep, q1, q2⟩ := hpart i (by omega)
      have epd : ((vs.map D.int).take (4 * i + 11)).drop (4 * i + 7) = [.int p0, .int p1, .int p2, .int p3] := by
        rw [← List.map_take, ← List.map_drop, ep]
        rfl
      show Ss (Lp_l_case_2 [some (.int c), some LM, some (.int (i : Int)), some (iL vs), some (.lst (shs.map iT)), x5, none]) _ _ _ _ _
      unfold Lp_l_case_2
      refine ss_seq (ss_cut (fun z => z = [some (.int c), some LM, some (.int (i : Int)), some (iL vs), some (.lst (shs.map iT)), some (.lst [.int p0, .int p1, .int p2, .int p3]), none]) ?_ ?_)
      · array_get_dec
        rw [show (4 * (i : Int) + 7) = ((4 * i + 7 : Nat) : Int) by omega, show (4 * (i : Int) + 11) = ((4 * i + 11 : Nat) : Int) by omega, cut_mid, epd]
        rfl
      rintro _ rfl
      obtain ⟨p, hp⟩ : ∃ p : Nat, p0 + 2 = (p : Int) := ⟨(p0 + 2).toNat, by omega⟩
      obtain ⟨ws, hws⟩ : ∃ ws : List Int, ws = ([p0, p1, p2, p3].take p).drop 1 := ⟨_, rfl⟩
      have hwl : ws.length = p - 1 := by
        rw [hws, List.length_drop, List.length_take]
        simp only [List.length_cons, List.length_nil]
        omega
      refine ss_app (ds := shs.map iT) rfl ?_
      refine rs_call (rs_cons (rs_lc D.int (fun w : Int => D.int (w + 1)) ws ?_ ?_ ?_ (rs_nil ?_)))
      · array_get_dec
        rw [hp]
        show cutL [D.int p0, .int p1, .int p2, .int p3] (some ((1 : Nat) : Int)) (some (p : Int)) = _
        rw [cut_mid, hws, List.map_drop, List.map_take]
        rfl
      · exact Nat.le_trans (m := 10) (by omega) (by decide)
      · intro w _
        refine ⟨_, rfl, rfl, ?_⟩
        array_get_dec
        rfl
      · refine rs_tupL ⟨?_, shs ++ [ws.map fun w => w + 1], some (.int (i : Int)), some (.lst [.int p0, .int p1, .int p2, .int p3]), ?_, by rw [List.length_append, hl]; rfl, fun w hw' => ?_⟩
        · rw [List.length_map]
          exact Nat.lt_of_le_of_lt (m := 10) (by omega) (by decide)
        · rw [List.map_append]
          show _ = [some (D.int c), some LM, some (.int (i : Int)), some (iL vs), some (.lst (shs.map iT ++ [.tup ((ws.map fun w => w + 1).map D.int)])), _, none]
          rw [List.map_map]
          rfl
        · rcases List.mem_append.mp hw' with hw' | hw'
          · exact hw w hw'
          · rw [List.mem_singleton.mp hw', List.length_map]
            omega
  rintro _ ⟨shs, x2', x5, rfl, hl, hw⟩
  array_get_dec
  refine ⟨⟨v0 + 1, v1, v2, decide (v3 = 1), v4, v5, shs⟩, rfl, ⟨fun z => ?_, by show shs.length ≤ 3; omega, hw⟩⟩
  have : shs = [] := z
  rw [this] at hl
  simp only [List.length_nil] at hl
  omega
end
section
theorem ixN_last' {n : Nat} (h : 0 < n) : ixN n (-1) = some (n - 1) := by
  unfold ixN
  rw [if_neg (by omega), if_pos (by omega)]
  congr 1
  omega
theorem atI_last' {α : Type} (xs : List α) (x : α) : atI (xs ++ [x]) (-1) = some x := by
  unfold atI
  rw [ixN_last' (by simp)]
  show (xs ++ [x])[(xs ++ [x]).length - 1]? = some x
  rw [List.length_append, List.length_cons, List.length_nil, Nat.add_sub_cancel, List.getElem?_append_right (Nat.le_refl _), Nat.sub_self]
  rfl
def prI (p : Nat × Nat) : D := .tup [.int (p.1 : Int), .int (p.2 : Int)]
theorem set_last {α : Type} (xs : List α) (x y : α) : (xs ++ [x]).set xs.length y = xs ++ [y] := by
  induction xs with
  | nil => rfl
  | cons a xs ih => show a :: (xs ++ [x]).set xs.length y = _; rw [ih]; rfl
def VK (cs : List Cs) (i k : Nat) : Prop := i < cs.length ∧ k < mc cs i
structure TV (cs : List Cs) (T : Tl) : Prop where
  ne : T ≠ []
  bs : ∀ p ∈ T, p.1 < cs.length ∧ p.2 ≠ [] ∧ ∀ k ∈ p.2, VK cs p.1 k
structure FamOk (cs : List Cs) (X : List Nat) (fo : List (List Nat)) : Prop where
  f : FOk cs fo
  x : SubN cs.length X
  xn : X ≠ []
  ok : ∀ c ∈ cs, CsOk c
  c3 : cs.length ≤ 3
theorem lenT_app (T U : Tl) : lenT (T ++ U) = lenT T + lenT U := sm_app _ _ _
theorem lenT_mem {T : Tl} {b : Nat × List Nat} (h : b ∈ T) : b.2.length ≤ lenT T := by
  obtain ⟨s, t, rfl⟩ := List.append_of_mem h
  rw [lenT_app]
  unfold lenT
  rw [sm_cons]
  omega
theorem len_cnt {P : Nat × List Nat → Prop} {Q : Nat × List Nat → Prop} : ∀ {T : Tl}, (∀ p ∈ T, P p ∧ p.2 ≠ [] ∧ Q p) → T.length ≤ lenT T
  | [], _ => Nat.zero_le _
  | p :: T, h => by
    have h1 := len_cnt fun q hq => h q (List.mem_cons_of_mem _ hq)
    have h2 : 1 ≤ p.2.length := List.length_pos_iff.mpr (h p List.mem_cons_self).2.1
    unfold lenT at h1 ⊢
    rw [sm_cons, List.length_cons]
    omega
section
variable {cs : List Cs} {X : List Nat} {fo : List (List Nat)}
theorem sh_len (h : FamOk cs X fo) {c : Nat} (hc : c < cs.length) : 0 < (cs.getD c default).mn.length ∧ (cs.getD c default).mn.length ≤ 3 := by
  have h1 := h.ok _ (getD_mem (d := default) hc)
  exact ⟨List.length_pos_iff.mpr h1.n, h1.l⟩
theorem ways_lc (h : FamOk cs X fo) {c : Nat} (hc : c < cs.length) {r : Rho} {f : Rho → Res D} {i j : Nat} {vs : List Nat} {E : Str → List Str → List D → Prop} {Q : D → Prop}
    (hf : Rs (f r) (fun d => d = .int ((cs.getD c default).mn.length : Int)) E)
    (hs : ∀ k : Nat, (wipeR r vs).set j (some (kI k)) = (wipeR r vs).set j (some (kI k)) ∧ ((wipeR r vs).set j (some (kI k)))[i]? = some (some (kI c)) ∧ ((wipeR r vs).set j (some (kI k)))[j]? = some (some (kI k)))
    (q : Q (.lst (((List.range (cs.getD c default).mn.length).map fun k => (c, k)).map prI))) :
    Rs (dLc (dIts rng1 (dCons f dNil)) (tgN j) dYes (dTup (dCons (dVar i) (dCons (dVar j) dNil))) vs r) Q E := by
  have hl := (sh_len h hc).2
  refine rs_lc kI (fun k => prI (c, k)) (List.range (cs.getD c default).mn.length) (rs_rngC hf (by omega)) (Nat.le_trans (m := 10) (by rw [List.length_range]; omega) (by decide)) (fun k _ => ⟨_, rfl, rfl, ?_⟩) ?_
  · obtain ⟨_, h1, h2⟩ := hs k
    exact rs_tup (rs_cons (rs_var h1 (rs_cons (rs_var h2 (rs_nil ⟨Nat.le_of_ble_eq_true rfl, rfl⟩)))))
  · rw [List.map_map] at q
    exact q
theorem wv_mem {c : Nat} (hc : c < cs.length) {p : Nat × Nat} (hp : p ∈ (List.range (cs.getD c default).mn.length).map fun k => (c, k)) : p.1 = c ∧ VK cs p.1 p.2 := by
  obtain ⟨k, hk, rfl⟩ := List.mem_map.mp hp
  exact ⟨rfl, hc, List.mem_range.mp hk⟩
theorem telling_sp (h : FamOk cs X fo) {q0 q1 : Int} {qs : List Int} (hq0 : 0 ≤ q0) (hq1 : 0 ≤ q1) (hqs : ∀ q ∈ qs, 0 ≤ q) (hql : qs.length ≤ 20) :
    Rs (F_l_telling [.tup (cs.map csD), natT X, .tup (fo.map natT), .lst ((q0 :: q1 :: qs).map D.int)]) (fun d => ∃ T, d = tlD T ∧ TV cs T ∧ lenT T ≤ qs.length + 1) nE := by
  have hcl : cs.length = fo.length := h.f.l.symm
  obtain ⟨a, ea, ha⟩ : ∃ a : Nat, q0 % (X.length : Int) = (a : Int) ∧ a < X.length := by
    have h0 : 0 < X.length := List.length_pos_iff.mpr h.xn
    have h1 := Int.emod_nonneg q0 (show (X.length : Int) ≠ 0 by omega)
    have h2 := Int.emod_lt_of_pos q0 (show 0 < (X.length : Int) by omega)
    exact ⟨(q0 % (X.length : Int)).toNat, by omega, by omega⟩
  have hfl : 0 < X.length := List.length_pos_iff.mpr h.xn
  have eX : X[a]? = some X[a] := List.getElem?_eq_getElem ha
  have hc0 := h.x.2 _ (List.mem_of_getElem? eX)
  generalize X[a] = c0 at eX hc0
  have hsl := sh_len h hc0
  obtain ⟨k0, ek, hk⟩ : ∃ k : Nat, q1 % ((cs.getD c0 default).mn.length : Int) = (k : Int) ∧ k < (cs.getD c0 default).mn.length := by
    have h1 := Int.emod_nonneg q1 (show ((cs.getD c0 default).mn.length : Int) ≠ 0 by omega)
    have h2 := Int.emod_lt_of_pos q1 (show 0 < ((cs.getD c0 default).mn.length : Int) by omega)
    exact ⟨(q1 % ((cs.getD c0 default).mn.length : Int)).toNat, by omega, by omega⟩
  have p0 : atI (List.map D.int (q0 :: q1 :: qs)) 0 = some (.int q0) := (atI_nat rfl : atI (List.map D.int (q0 :: q1 :: qs)) ((0 : Nat) : Int) = some (.int q0))
  have p1 : atI (List.map D.int (q0 :: q1 :: qs)) 1 = some (.int q1) := (atI_nat rfl : atI (List.map D.int (q0 :: q1 :: qs)) ((1 : Nat) : Int) = some (.int q1))
  refine rs_run ?_
  unfold Fb_l_telling
  show Ss (seqF _ _ [some (.tup (cs.map csD)), some (.tup (X.map kI)), some (.tup (fo.map natT)), some (.lst ((q0 :: q1 :: qs).map D.int)), none, none, none, none, none, none, none, none, none]) _ _ _ _ _
  refine ss_seq (ss_cut (fun z => z = [some (.tup (cs.map csD)), some (.tup (X.map kI)), some (.tup (fo.map natT)), some (.lst ((q0 :: q1 :: qs).map D.int)), some (kI c0), none, none, none, none, none, none, none, none]) ?_ ?_)
  · refine ss_set (rs_op (rs_var rfl (rs_op (rs_call (rs_cons (rs_op (rs_var rfl (rs_c (rs_ixL p0 (rs_nil (rs_int (rs_call (rs_cons (rs_var rfl (rs_nil (rs_lenT ?_))))))))))))))))
    rw [List.length_map]
    refine rs_mod (by omega) ?_
    rw [ea]
    exact rs_ixc a (map_at eX) rfl
  rintro _ rfl
  refine ss_seq (ss_cut (fun z => z = [some (.tup (cs.map csD)), some (.tup (X.map kI)), some (.tup (fo.map natT)), some (.lst ((q0 :: q1 :: qs).map D.int)), some (kI c0), some (.lst ([(c0, [k0])].map blkT)), none, none, none, none, none, none, none]) ?_ ?_)
  · refine ss_set (rs_lst (rs_cons (rs_tup (rs_cons (rs_var rfl (rs_cons (rs_tup (rs_cons (rs_op (rs_call (rs_cons (rs_op (rs_var rfl (rs_c (rs_ixL p1 (rs_nil (rs_int (rs_call (rs_cons (rs_op (rs_op (rs_var rfl (rs_var rfl (rs_case hc0 (rs_c (rs_menu (rs_nil (rs_lenT ?_))))))))))))))))))))))))))))
    rw [List.length_map]
    refine rs_mod (by omega) ?_
    rw [ek]
    array_get_dec
    rfl
  rintro _ rfl
  refine ss_seq (ss_cut (fun z => ∃ (T : Tl) (x4 x6 x7 x8 x9 x10 x11 x12 : Option D), z = [some (.tup (cs.map csD)), some (.tup (X.map kI)), some (.tup (fo.map natT)), some (.lst ((q0 :: q1 :: qs).map D.int)), x4, some (.lst (T.map blkT)), x6, x7, x8, x9, x10, x11, x12] ∧ TV cs T ∧ lenT T ≤ qs.length + 1) ?_ ?_)
  · refine ss_each D.int qs (fun i z => ∃ (T : Tl) (x4 x6 x7 x8 x9 x10 x11 x12 : Option D), z = [some (.tup (cs.map csD)), some (.tup (X.map kI)), some (.tup (fo.map natT)), some (.lst ((q0 :: q1 :: qs).map D.int)), x4, some (.lst (T.map blkT)), x6, x7, x8, x9, x10, x11, x12] ∧ TV cs T ∧ lenT T ≤ i + 1) ?_ ⟨[(c0, [k0])], _, none, none, none, none, none, none, none, rfl, ⟨List.cons_ne_nil _ _, fun b hb => ?_⟩, Nat.le_refl _⟩ ?_ (fun z h => h)
    · array_get_dec
      exact congrArg D.lst ((cut_drop ((q0 :: q1 :: qs).map D.int) 2).trans rfl)
    · rw [List.mem_singleton.mp hb]
      exact ⟨hc0, List.cons_ne_nil _ _, fun k hk' => by rw [List.mem_singleton.mp hk']; exact ⟨hc0, hk⟩⟩
    · rintro i q z hi ⟨T, x4, x6, x7, x8, x9, x10, x11, x12, rfl, hv, hcn⟩
      have hq := hqs q (List.mem_of_getElem? hi)
      have hil := (List.getElem?_eq_some_iff.mp hi).1
      obtain ⟨r, b, rfl⟩ : ∃ r b, T = r ++ [b] := ⟨T.dropLast, T.getLast hv.ne, (List.dropLast_concat_getLast hv.ne).symm⟩
      obtain ⟨c, ss⟩ := b
      have hb := hv.bs _ (List.mem_append_right _ (List.mem_singleton.mpr rfl))
      have hc : c < cs.length := hb.1
      have hTl : (r ++ [(c, ss)]).length ≤ 30 := Nat.le_trans (len_cnt hv.bs) (by omega)
      have hss : ss.length ≤ 30 := Nat.le_trans (lenT_mem (b := (c, ss)) (List.mem_append_right r (List.mem_singleton.mpr rfl))) (show lenT (r ++ [(c, ss)]) ≤ 30 by omega)
      show Ss (Lp_l_telling_2 [some (.tup (cs.map csD)), some (.tup (X.map kI)), some (.tup (fo.map natT)), some (.lst ((q0 :: q1 :: qs).map D.int)), x4, some (.lst ((r ++ [(c, ss)]).map blkT)), some (.int q), x7, x8, x9, x10, x11, x12]) _ _ _ _ _
      obtain ⟨PK, hPK⟩ : ∃ PK, PK = D.lst ((q0 :: q1 :: qs).map D.int) := ⟨_, rfl⟩
      rw [← hPK]
      clear hPK
      unfold Lp_l_telling_2
      refine ss_seq (ss_cut (fun z => z = [some (.tup (cs.map csD)), some (.tup (X.map kI)), some (.tup (fo.map natT)), some PK, some (kI c), some (.lst ((r ++ [(c, ss)]).map blkT)), some (.int q), some (.tup (ss.map kI)), x8, x9, x10, x11, x12]) ?_ ?_)
      · refine ss_asg (rs_op (rs_var rfl (rs_un (rs_c (rs_neg (rs_ixL (d := blkT (c, ss)) ?_ ⟨_, rfl, rfl⟩))))))
        rw [List.map_append]
        exact atI_last' _ _
      rintro _ rfl
      obtain ⟨W0, hW0⟩ : ∃ W0, W0 = (List.range (cs.getD c default).mn.length).map fun k => (c, k) := ⟨_, rfl⟩
      have hm0 : ∀ p ∈ W0, p.1 = c ∧ VK cs p.1 p.2 := fun p hp => wv_mem hc (by rw [← hW0]; exact hp)
      have hw0 : 0 < W0.length ∧ W0.length ≤ 3 := by rw [hW0, List.length_map, List.length_range]; exact sh_len h hc
      refine ss_seq (ss_cut (fun z => z = [some (.tup (cs.map csD)), some (.tup (X.map kI)), some (.tup (fo.map natT)), some PK, some (kI c), some (.lst ((r ++ [(c, ss)]).map blkT)), some (.int q), some (.tup (ss.map kI)), some (.lst (W0.map prI)), x9, x10, x11, x12]) ?_ ?_)
      · refine ss_set (ways_lc h hc ?_ (fun k => ⟨rfl, rfl, rfl⟩) ?_)
        · refine rs_call (rs_cons (rs_op (rs_op (rs_var rfl (rs_var rfl (rs_case hc (rs_c (rs_menu (rs_nil (rs_lenT ?_)))))))))) 
          rw [List.length_map]
        · rw [← hW0]
          rfl
      rintro _ rfl
      refine ss_seq (ss_cut (fun z => z = [some (.tup (cs.map csD)), some (.tup (X.map kI)), some (.tup (fo.map natT)), some PK, some (kI c), some (.lst ((r ++ [(c, ss)]).map blkT)), some (.int q), some (.tup (ss.map kI)), some (.lst (W0.map prI)), x9, some (.int (W0.length : Int)), x11, x12]) ?_ ?_)
      · array_get_dec
        rw [List.length_map]
        rfl
      rintro _ rfl
      have efo : fo[c]? = some (fo[c]'(by omega)) := List.getElem?_eq_getElem (by omega)
      have hof := h.f.s _ (List.mem_of_getElem? efo)
      generalize fo[c]'(by omega) = ol at efo hof
      refine ss_seq (ss_cut (fun z => ∃ (W1 : List (Nat × Nat)) (x9 x11 : Option D), z = [some (.tup (cs.map csD)), some (.tup (X.map kI)), some (.tup (fo.map natT)), some PK, some (kI c), some (.lst ((r ++ [(c, ss)]).map blkT)), some (.int q), some (.tup (ss.map kI)), some (.lst ((W0 ++ W1).map prI)), x9, some (.int (W0.length : Int)), x11, x12] ∧ (∀ p ∈ W1, VK cs p.1 p.2) ∧ W1.length ≤ 3 * ol.length) ?_ ?_)
      · refine ss_eachG kI ol (fun j z => ∃ (W1 : List (Nat × Nat)) (x9 x11 : Option D), z = [some (.tup (cs.map csD)), some (.tup (X.map kI)), some (.tup (fo.map natT)), some PK, some (kI c), some (.lst ((r ++ [(c, ss)]).map blkT)), some (.int q), some (.tup (ss.map kI)), some (.lst ((W0 ++ W1).map prI)), x9, some (.int (W0.length : Int)), x11, x12] ∧ (∀ p ∈ W1, VK cs p.1 p.2) ∧ W1.length ≤ 3 * j) ?_ ⟨[], x9, x11, by rw [List.append_nil], fun p hp => (by cases hp), Nat.le_refl _⟩ ?_ (fun z h => h)
        · exact rs_op (rs_var rfl (rs_var rfl (rs_ixc c (map_at efo) rfl)))
        · rintro j o z hj ⟨W1, x9, x11, rfl, hw1, hl1⟩
          have hjl := (List.getElem?_eq_some_iff.mp hj).1
          have ho := hof.2 o (List.mem_of_getElem? hj)
          have hso := sh_len h ho
          have hol := hof.1
          refine ⟨[some (.tup (cs.map csD)), some (.tup (X.map kI)), some (.tup (fo.map natT)), some PK, some (kI c), some (.lst ((r ++ [(c, ss)]).map blkT)), some (.int q), some (.tup (ss.map kI)), some (.lst ((W0 ++ W1).map prI)), x9, some (.int (W0.length : Int)), some (kI o), x12], rfl, ?_⟩
          unfold Lp_l_telling_1
          refine ss_set (rs_op (rs_var rfl (ways_lc h ho ?_ (fun k => ⟨rfl, rfl, rfl⟩) (rs_addLL ?_ ?_))))
          · refine rs_call (rs_cons (rs_op (rs_op (rs_var rfl (rs_var rfl (rs_case ho (rs_c (rs_menu (rs_nil (rs_lenT ?_)))))))))) 
            rw [List.length_map]
          · refine Nat.le_trans (m := 1000) ?_ (by decide)
            rw [List.length_map, List.length_map, List.length_append, List.length_map, List.length_range]
            omega
          · rw [← List.map_append, List.append_assoc]
            refine ⟨W1 ++ (List.range (cs.getD o default).mn.length).map (fun k => (o, k)), x9, some (kI o), rfl, fun p hp => ?_, ?_⟩
            · rcases List.mem_append.mp hp with hp | hp
              · exact hw1 p hp
              · exact (wv_mem ho hp).2
            · rw [List.length_append, List.length_map, List.length_range]
              omega
      rintro _ ⟨W1, x9, x11, rfl, hw1, hl1⟩
      obtain ⟨W, hW⟩ : ∃ W, W = W0 ++ W1 := ⟨_, rfl⟩
      have hWl : 0 < W.length := by rw [hW, List.length_append]; omega
      obtain ⟨t, et, ht⟩ : ∃ t : Nat, q % (W.length : Int) = (t : Int) ∧ t < W.length := by
        have h1 := Int.emod_nonneg q (show (W.length : Int) ≠ 0 by omega)
        have h2 := Int.emod_lt_of_pos q (show 0 < (W.length : Int) by omega)
        exact ⟨(q % (W.length : Int)).toNat, by omega, by omega⟩
      obtain ⟨w, hWt⟩ : ∃ w, W[t]? = some w := ⟨_, List.getElem?_eq_getElem ht⟩
      have hwk : VK cs w.1 w.2 := by
        have := List.mem_of_getElem? hWt
        rw [hW] at this
        rcases List.mem_append.mp this with hp | hp
        · exact (hm0 _ hp).2
        · exact hw1 _ hp
      have hwc : t < W0.length → w.1 = c := fun hlt => by
        have : W0[t]? = some w := by
          rw [← hWt, hW, List.getElem?_append_left hlt]
        exact (hm0 _ (List.mem_of_getElem? this)).1
      rw [← hW]
      clear hW
      refine ss_seq (ss_cut (fun z => z = [some (.tup (cs.map csD)), some (.tup (X.map kI)), some (.tup (fo.map natT)), some PK, some (kI c), some (.lst ((r ++ [(c, ss)]).map blkT)), some (.int q), some (.tup (ss.map kI)), some (.lst (W.map prI)), x9, some (.int (W0.length : Int)), x11, some (.int (t : Int))]) ?_ ?_)
      · refine ss_set (rs_op (rs_call (rs_cons (rs_var rfl (rs_nil (rs_int (rs_call (rs_cons (rs_var rfl (rs_nil (rs_lenL ?_)))))))))))
        rw [List.length_map]
        refine rs_mod (by omega) ?_
        rw [et]
        rfl
      rintro _ rfl
      have hrl : r.length ≤ 30 := by rw [List.length_append] at hTl; omega
      refine ss_if (rs_T (rs_op (rs_var rfl (rs_var rfl (rs_lt (rs_asB ⟨fun hlt => ?_, fun _ => ?_⟩))))))
      · have hlt := of_decide_eq_true hlt
        have hwc := hwc (by omega)
        obtain ⟨w1, w2⟩ := w
        dsimp only at hwc hwk
        subst hwc
        refine ss_sto (ds := (r ++ [(w1, ss)]).map blkT) (k := -1) (n := r.length) (rs_tup (rs_cons (rs_var rfl (rs_cons (rs_op (rs_var rfl (rs_tup (rs_cons (rs_op (rs_op (rs_var rfl (rs_var rfl (rs_ixL (atI_nat (map_at hWt)) (rs_c (rs_ixc 1 rfl (rs_nil ⟨Nat.le_of_ble_eq_true rfl, ?_⟩))))))))))))))))
        refine rs_addT ?_ ?_
        · refine Nat.le_trans (m := 1000) ?_ (by decide)
          rw [List.length_map]
          simp only [List.length_cons, List.length_nil]
          omega
        refine rs_nil ⟨Nat.le_of_ble_eq_true rfl, rfl, rs_un (rs_c (rs_neg ⟨rfl, ?_, r ++ [(w1, ss ++ [w2])], some (kI w1), some (.int q), some (.tup (ss.map kI)), some (.lst (W.map prI)), x9, some (.int (W0.length : Int)), x11, some (.int (t : Int)), ?_, ⟨fun z => List.cons_ne_nil _ _ (List.append_eq_nil_iff.mp z).2, fun b hb' => ?_⟩, ?_⟩))⟩
        · rw [List.length_map, List.length_append, ixN_last' (by simp)]
          rfl
        · rw [List.map_append]
          show [some (.tup (cs.map csD)), some (.tup (X.map kI)), some (.tup (fo.map natT)), some PK, some (kI w1), some (D.lst ((r.map blkT ++ [blkT (w1, ss)]).set r.length (.tup [.int (w1 : Int), .tup (ss.map kI ++ [.int (w2 : Int)])]))), some (.int q), some (.tup (ss.map kI)), some (.lst (W.map prI)), x9, some (.int (W0.length : Int)), x11, some (.int (t : Int))] = _
          have e1 := set_last (r.map blkT) (blkT (w1, ss)) (.tup [.int (w1 : Int), .tup (ss.map kI ++ [.int (w2 : Int)])])
          rw [List.length_map] at e1
          rw [e1, List.map_append]
          have e2 : [(w1, ss ++ [w2])].map blkT = [.tup [.int (w1 : Int), .tup (ss.map kI ++ [.int (w2 : Int)])]] := by
            show [D.tup [.int (w1 : Int), .tup ((ss ++ [w2]).map kI)]] = _
            rw [List.map_append]
            rfl
          rw [e2]
        · rcases List.mem_append.mp hb' with hb' | hb'
          · exact hv.bs b (List.mem_append_left _ hb')
          · rw [List.mem_singleton.mp hb']
            refine ⟨hb.1, fun z => List.cons_ne_nil _ _ (List.append_eq_nil_iff.mp z).2, fun k hk' => ?_⟩
            rcases List.mem_append.mp hk' with hk' | hk'
            · exact hb.2.2 k hk'
            · rw [List.mem_singleton.mp hk']; exact hwk
        · rw [lenT_app] at hcn ⊢
          have hcn : lenT r + (ss.length + 0) ≤ i + 1 := hcn
          show lenT r + ((ss ++ [w2]).length + 0) ≤ i + 1 + 1
          rw [List.length_append, List.length_cons, List.length_nil]
          omega
      · obtain ⟨w1, w2⟩ := w
        dsimp only at hwk
        refine ss_app (ds := (r ++ [(c, ss)]).map blkT) rfl (rs_tup (rs_cons (rs_op (rs_op (rs_var rfl (rs_var rfl (rs_ixL (atI_nat (map_at hWt)) (rs_c (rs_ixc 0 rfl (rs_cons (rs_tup (rs_cons (rs_op (rs_op (rs_var rfl (rs_var rfl (rs_ixL (atI_nat (map_at hWt)) (rs_c (rs_ixc 1 rfl (rs_nil ⟨Nat.le_of_ble_eq_true rfl, rs_nil ⟨Nat.le_of_ble_eq_true rfl, ?_, (r ++ [(c, ss)]) ++ [(w1, [w2])], some (kI c), some (.int q), some (.tup (ss.map kI)), some (.lst (W.map prI)), x9, some (.int (W0.length : Int)), x11, some (.int (t : Int)), ?_, ⟨fun z => List.cons_ne_nil _ _ (List.append_eq_nil_iff.mp z).2, fun b hb' => ?_⟩, ?_⟩⟩))))))))))))))))))))
        · rw [List.length_map]
          exact Nat.lt_of_le_of_lt hTl (by decide)
        · have e5 : ((r ++ [(c, ss)]) ++ [(w1, [w2])]).map blkT = (r ++ [(c, ss)]).map blkT ++ [.tup [.int (w1 : Int), .tup [.int (w2 : Int)]]] := by rw [List.map_append]; rfl
          rw [e5]
          rfl
        · rcases List.mem_append.mp hb' with hb' | hb'
          · exact hv.bs b hb'
          · rw [List.mem_singleton.mp hb']
            exact ⟨hwk.1, List.cons_ne_nil _ _, fun k hk' => by rw [List.mem_singleton.mp hk']; exact hwk⟩
        · rw [lenT_app]
          show lenT (r ++ [(c, ss)]) + (1 + 0) ≤ i + 1 + 1
          omega
  rintro _ ⟨T, x4, x6, x7, x8, x9, x10, x11, x12, rfl, hv, hcn⟩
  array_get_dec
  exact ⟨T, rfl, hv, by omega⟩
end
end
section
theorem cut_init {α : Type} (q : List α) (x : α) : cutL (q ++ [x]) none (some (-1)) = q := by
  have h := cut_back (q ++ [x]) 1 (by decide)
  rw [List.length_append, List.length_cons, List.length_nil, Nat.add_sub_cancel, List.take_left] at h
  exact h
theorem at_nat {vs : List Int} {k : Nat} (h : k < vs.length) : vs[k]? = some (vs.getD k 0) := by rw [List.getD_eq_getElem?_getD, List.getElem?_eq_getElem h]; rfl
theorem case_ex (c : Int) : ∃ k : Cs, F_l_case [.int c] = .ok (csD k) ∧ CsOk k := by
  obtain ⟨d, e, k, rfl, h⟩ := Rs.get (case_sp c)
  exact ⟨k, e, h⟩
theorem some_ex (m : Nat) (hm : m ≤ 3) (p : Int × Int) : ∃ l : List Nat, F_l_some [.int p.1, .int (m : Int), .int p.2] = .ok (natT l) ∧ SubN m l := by
  obtain ⟨d, e, l, rfl, h⟩ := Rs.get (some_sp p.1 m p.2 hm)
  exact ⟨l, e, h⟩
abbrev lwR (ns vs : List Int) (x2 x3 x4 x5 x6 x7 x8 x9 x10 x11 x12 x13 x14 x15 x16 : Option D) : Rho := [some (.fz (ns.map D.int)), some (iL vs), x2, x3, x4, x5, x6, x7, x8, x9, x10, x11, x12, x13, x14, x15, x16]
theorem tok_of {cs : List Cs} {T : Tl} (hT : TV cs T) (h : lenT T ≤ 60) : TOk cs T := ⟨fun p hp => ⟨(hT.bs p hp).1, Nat.le_trans (lenT_mem hp) (by omega), fun x hx => ((hT.bs p hp).2.2 x hx).2⟩, Nat.le_trans (len_cnt hT.bs) (by omega), by omega⟩
theorem rs_gal {cs : List Cs} {X : List Nat} {fo : List (List Nat)} {T : Tl} {r : Rho} {i j : Nat} (hw : Wid cs) (hT : TOk cs T) (hi : r[i]? = some (some (famD cs X fo))) (hj : r[j]? = some (some (tlD T))) {Q : D → Prop} {E : Str → List Str → List D → Prop} (q : Q (galD (bksF cs T))) : Rs (dMeth "Family" "galley_of" F_Family_galley_of (dVar i) (dCons (dVar j) dNil) r) Q E :=
  rs_meth (rs_var hi (rs_isObj (ns := ["cases", "firsts", "follows"]) (vs := [.tup (cs.map csD), natT X, .tup (fo.map natT)]) (by decide) (rs_cons (rs_var hj (rs_nil (Rs.of (galley_eq hw hT) q))))))
theorem law_true (ns : List Int) (hl : ns.length ≤ 63) : F_law [.fz (ns.map D.int)] = .ok (.bl true) := Rs.eq (by
  refine rs_run ?_
  unfold Fb_law
  show Ss (seqF _ _ [some (.fz (ns.map D.int)), none, none, none, none, none, none, none, none, none, none, none, none, none, none, none, none]) _ _ _ _ _
  refine ss_seq (ss_cut (fun z => ∃ vs, z = lwR ns vs none none none none none none none none none none none none none none none ∧ Fit vs [3, 7, 2, 8, 2, 8, 2, 8, 2, 5]) ?_ ?_)
  · array_get_dec
    refine Rs.of (cell_eq ns 0) ?_
    array_get_dec
    refine row_of _ [3, 7, 2, 8, 2, 8, 2, 8, 2, 5] ?_ (by decide) fun vs hf => ?_
    · intro l hl
      simp only [List.mem_cons, List.not_mem_nil, or_false] at hl
      omega
    exact ⟨vs, rfl, hf⟩
  rintro _ ⟨vs, rfl, hf⟩
  have hvl : vs.length = 10 := hf.len
  obtain ⟨v0, e0, a0, b0⟩ := hf.get (k := 0) rfl
  obtain ⟨v9, e9, a9, b9⟩ := hf.get (k := 9) rfl
  clear hf
  have e1 := at_nat (vs := vs) (k := 1) (by omega)
  have e2 := at_nat (vs := vs) (k := 2) (by omega)
  have j0 : atI (vs.map D.int) 0 = some (.int v0) := (atI_nat (map_at e0) : atI (vs.map D.int) ((0 : Nat) : Int) = some (.int v0))
  have j1 : atI (vs.map D.int) 1 = some (.int (vs.getD 1 0)) := (atI_nat (map_at e1) : atI (vs.map D.int) ((1 : Nat) : Int) = some (.int (vs.getD 1 0)))
  have j2 : atI (vs.map D.int) 2 = some (.int (vs.getD 2 0)) := (atI_nat (map_at e2) : atI (vs.map D.int) ((2 : Nat) : Int) = some (.int (vs.getD 2 0)))
  have j9 : atI (vs.map D.int) 9 = some (.int v9) := (atI_nat (map_at e9) : atI (vs.map D.int) ((9 : Nat) : Int) = some (.int v9))
  obtain ⟨m, hm, hm0, hm3⟩ : ∃ m : Nat, v0 + 1 = (m : Int) ∧ 0 < m ∧ m ≤ 3 := ⟨(v0 + 1).toNat, by omega, by omega, by omega⟩
  obtain ⟨cA, hcA⟩ := Classical.axiomOfChoice case_ex
  obtain ⟨sA, hsA⟩ := Classical.axiomOfChoice (some_ex m hm3)
  refine ss_seq (ss_cut (fun z => z = lwR ns vs (some (.int (m : Int))) none none none none none none none none none none none none none none) ?_ ?_)
  · array_get_dec
    rw [hm]
    rfl
  rintro _ rfl
  obtain ⟨cs, hcs⟩ : ∃ cs : List Cs, cs = (List.range m).map fun k => cA (ns.getD (k + 1) 0) := ⟨_, rfl⟩
  have hcl : cs.length = m := by rw [hcs, List.length_map, List.length_range]
  have hok : ∀ c ∈ cs, CsOk c := fun c hc => by
    rw [hcs] at hc
    obtain ⟨k, _, rfl⟩ := List.mem_map.mp hc
    exact (hcA _).2
  refine ss_seq (ss_cut (fun z => z = lwR ns vs (some (.int (m : Int))) (some (.tup (cs.map csD))) none none none none none none none none none none none none none) ?_ ?_)
  · refine ss_set (rs_call (rs_cons (rs_lc kI (fun k => csD (cA (ns.getD (k + 1) 0))) (List.range m) (rs_rngC (rs_var rfl rfl) (by omega)) (Nat.le_trans (m := 10) (by rw [List.length_range]; omega) (by decide)) (fun k _ => ⟨_, rfl, rfl, ?_⟩) (rs_nil (rs_tupL ?_)))))
    · array_get_dec
      rw [show ((k : Int) + 1) = ((k + 1 : Nat) : Int) by omega]
      refine Rs.of (cell_eq ns (k + 1)) ?_
      array_get_dec
      exact Rs.of (hcA _).1 rfl
    · have e : cs.map csD = (List.range m).map fun k => csD (cA (ns.getD (k + 1) 0)) := by rw [hcs, List.map_map]; rfl
      rw [e]
      rfl
  rintro _ rfl
  clear hcs hcA
  obtain ⟨hs1, hs2⟩ := hsA (vs.getD 1 0 + 1, vs.getD 2 0)
  refine ss_seq (ss_cut (fun z => z = lwR ns vs (some (.int (m : Int))) (some (.tup (cs.map csD))) none (some (natT (sA (vs.getD 1 0 + 1, vs.getD 2 0)))) none none none none none none none none none none none) ?_ ?_)
  · array_get_dec
    refine Rs.of hs1 ?_
    rfl
  rintro _ rfl
  refine ss_seq (ss_cut (fun z => ∃ X : List Nat, z = lwR ns vs (some (.int (m : Int))) (some (.tup (cs.map csD))) none (some (natT X)) none none none none none none none none none none none ∧ X ≠ [] ∧ SubN m X) ?_ ?_)
  · array_get_dec
    rw [List.length_map]
    refine ⟨fun q => ?_, fun q => ?_⟩
    · array_get_dec
      exact ⟨[0], rfl, List.cons_ne_nil _ _, by decide, fun k hk => by rw [List.mem_singleton.mp hk]; exact hm0⟩
    · have q' := of_decide_eq_false q
      exact ss_nx ⟨_, rfl, fun z => q' (by rw [z]; rfl), hs2⟩
  rintro _ ⟨X, rfl, hX1, hX2⟩
  clear hs1 hs2
  obtain ⟨fo, hfoe⟩ : ∃ fo : List (List Nat), fo = (List.range m).map fun k => sA (vs.getD (2 * k + 3) 0, vs.getD (2 * k + 4) 0) := ⟨_, rfl⟩
  have hfol : fo.length = m := by rw [hfoe, List.length_map, List.length_range]
  have hfov : ∀ l ∈ fo, SubN m l := fun l hl => by
    rw [hfoe] at hl
    obtain ⟨k, hk, rfl⟩ := List.mem_map.mp hl
    exact (hsA _).2
  refine ss_seq (ss_cut (fun z => z = lwR ns vs (some (.int (m : Int))) (some (.tup (cs.map csD))) none (some (natT X)) (some (.tup (fo.map natT))) none none none none none none none none none none) ?_ ?_)
  · refine ss_set (rs_call (rs_cons (rs_lc kI (fun k => natT (sA (vs.getD (2 * k + 3) 0, vs.getD (2 * k + 4) 0))) (List.range m) (rs_rngC (rs_var rfl rfl) (by omega)) (Nat.le_trans (m := 10) (by rw [List.length_range]; omega) (by decide)) (fun k hk => ⟨_, rfl, rfl, ?_⟩) (rs_nil (rs_tupL ?_)))))
    · have hk := List.mem_range.mp hk
      have h1 := at_nat (vs := vs) (k := 2 * k + 3) (by omega)
      have h2 := at_nat (vs := vs) (k := 2 * k + 4) (by omega)
      array_get_dec
      rw [show (2 * (k : Int) + 3) = ((2 * k + 3 : Nat) : Int) by omega]
      refine rs_ixL (atI_nat (map_at h1)) ?_
      array_get_dec
      rw [show (2 * (k : Int) + 4) = ((2 * k + 4 : Nat) : Int) by omega]
      refine rs_ixL (atI_nat (map_at h2)) ?_
      array_get_dec
      exact Rs.of (hsA (vs.getD (2 * k + 3) 0, vs.getD (2 * k + 4) 0)).1 rfl
    · have e : fo.map natT = (List.range m).map fun k => natT (sA (vs.getD (2 * k + 3) 0, vs.getD (2 * k + 4) 0)) := by rw [hfoe, List.map_map]; rfl
      rw [e]
      rfl
  rintro _ rfl
  clear hfoe hsA
  subst hcl
  have hf : FOk cs fo := ⟨hfol, hfov, fun c hc => Nat.le_trans (hok c hc).l (by decide)⟩
  have hfam : FamOk cs X fo := ⟨hf, hX2, hX1, hok, hm3⟩
  have hw : Wid cs := fun c hc => (hok c hc).w
  refine ss_seq (ss_cut (fun z => z = lwR ns vs (some (.int (cs.length : Int))) (some (.tup (cs.map csD))) none (some (natT X)) (some (.tup (fo.map natT))) (some (famD cs X fo)) none none none none none none none none none) ?_ ?_)
  · array_get_dec
    refine Rs.of (fam_eq (by omega)) ?_
    rfl
  rintro _ rfl
  refine ss_seq (ss_cut (fun z => z = lwR ns vs (some (.int (cs.length : Int))) (some (.tup (cs.map csD))) none (some (natT X)) (some (.tup (fo.map natT))) (some (famD cs X fo)) none none none none none none none none none) ?_ ?_)
  · refine ss_if (rs_not (rs_T (rs_call (rs_cons (rs_lst (rs_cons (rs_un (rs_var rfl (rs_fld (d := .tup (cs.map csD)) rfl (rs_cons (rs_un (rs_var rfl (rs_fld (d := natT X) rfl (rs_cons (rs_un (rs_var rfl (rs_fld (d := .tup (fo.map natT)) rfl (rs_nil ⟨Nat.le_of_ble_eq_true rfl, ?_⟩))))))))))))))))))
    refine rs_cons (rs_lst (rs_cons (rs_var rfl (rs_cons (rs_var rfl (rs_cons (rs_var rfl (rs_nil ⟨Nat.le_of_ble_eq_true rfl, rs_nil ?_⟩))))))))
    refine Rs.of (same_fam hf hw (Nat.le_trans (Nat.le_of_lt hX2.1) (by decide)) (by omega)) (rs_asB ?_)
    exact ⟨fun c => (by cases c), fun _ => ss_nx rfl⟩
  rintro _ rfl
  refine ss_seq (ss_cut (fun z => ∃ us, z = lwR ns vs (some (.int (cs.length : Int))) (some (.tup (cs.map csD))) none (some (natT X)) (some (.tup (fo.map natT))) (some (famD cs X fo)) (some (iL us)) none none none none none none none none ∧ Fit us [8, 4, 20, 3, 3, 60, 60, 60, 60, 60, 60, 60]) ?_ ?_)
  · array_get_dec
    refine Rs.of (cell_eq ns 4) ?_
    array_get_dec
    refine rs_mulL (by decide +kernel) ?_
    array_get_dec
    show Rs (F_l_row [.int (ns.getD 4 0), iL [8, 4, 20, 3, 3, 60, 60, 60, 60, 60, 60, 60]]) _ _
    refine row_of _ [8, 4, 20, 3, 3, 60, 60, 60, 60, 60, 60, 60] ?_ (by decide) fun us hg => ?_
    · intro l hl
      simp only [List.mem_cons, List.not_mem_nil, or_false] at hl
      omega
    exact ⟨us, rfl, hg⟩
  rintro _ ⟨us, rfl, hg⟩
  obtain ⟨u0, f0, c0, d0⟩ := hg.get (k := 0) rfl
  obtain ⟨u1, f1, c1, d1⟩ := hg.get (k := 1) rfl
  obtain ⟨u2, f2, c2, d2⟩ := hg.get (k := 2) rfl
  have i0 : atI (us.map D.int) 0 = some (.int u0) := (atI_nat (map_at f0) : atI (us.map D.int) ((0 : Nat) : Int) = some (.int u0))
  have i1 : atI (us.map D.int) 1 = some (.int u1) := (atI_nat (map_at f1) : atI (us.map D.int) ((1 : Nat) : Int) = some (.int u1))
  have i2 : atI (us.map D.int) 2 = some (.int u2) := (atI_nat (map_at f2) : atI (us.map D.int) ((2 : Nat) : Int) = some (.int u2))
  obtain ⟨p, hp, hp7⟩ : ∃ p : Nat, u0 + 5 = ((p + 5 : Nat) : Int) ∧ p ≤ 7 := ⟨u0.toNat, by omega, by omega⟩
  obtain ⟨q0, q1, qs, hq, hq0, hq1, hqs, hql⟩ : ∃ (q0 q1 : Int) (qs : List Int), (us.take (p + 5)).drop 3 = q0 :: q1 :: qs ∧ 0 ≤ q0 ∧ 0 ≤ q1 ∧ (∀ q ∈ qs, 0 ≤ q) ∧ qs.length ≤ 7 := by
    clear f0 f1 f2 i0 i1 i2 hp
    obtain ⟨v0, _, rfl, a0, b0, hg⟩ := hg.cons
    obtain ⟨v1, _, rfl, a1, b1, hg⟩ := hg.cons
    obtain ⟨v2, _, rfl, a2, b2, hg⟩ := hg.cons
    obtain ⟨v3, _, rfl, a3, b3, hg⟩ := hg.cons
    obtain ⟨v4, _, rfl, a4, b4, hg⟩ := hg.cons
    obtain ⟨v5, _, rfl, a5, b5, hg⟩ := hg.cons
    obtain ⟨v6, _, rfl, a6, b6, hg⟩ := hg.cons
    obtain ⟨v7, _, rfl, a7, b7, hg⟩ := hg.cons
    obtain ⟨v8, _, rfl, a8, b8, hg⟩ := hg.cons
    obtain ⟨v9, _, rfl, a9, b9, hg⟩ := hg.cons
    obtain ⟨v10, _, rfl, a10, b10, hg⟩ := hg.cons
    obtain ⟨v11, _, rfl, a11, b11, hg⟩ := hg.cons
    cases hg.nil
    refine ⟨v3, v4, [v5, v6, v7, v8, v9, v10, v11].take p, rfl, a3, a4, fun u hu => ?_, List.length_take_le' _ _⟩
    have hu := List.mem_of_mem_take hu
    simp only [List.mem_cons, List.not_mem_nil, or_false] at hu
    rcases hu with rfl | rfl | rfl | rfl | rfl | rfl | rfl <;> assumption
  clear hg
  obtain ⟨d, et, T, rfl, hT, hTl⟩ := Rs.get (telling_sp hfam hq0 hq1 hqs (by omega))
  refine ss_seq (ss_cut (fun z => z = lwR ns vs (some (.int (cs.length : Int))) (some (.tup (cs.map csD))) none (some (natT X)) (some (.tup (fo.map natT))) (some (famD cs X fo)) (some (iL us)) (some (tlD T)) none none none none none none none) ?_ ?_)
  · array_get_dec
    rw [hp]
    have e : cutL (us.map D.int) (some 3) (some ((p + 5 : Nat) : Int)) = (q0 :: q1 :: qs).map D.int := by
      rw [show (3 : Int) = ((3 : Nat) : Int) from rfl, cut_mid, ← List.map_take, ← List.map_drop, hq]
    rw [e]
    refine Rs.of et ?_
    rfl
  rintro _ rfl
  refine ss_seq (ss_cut (fun z => ∃ (T : Tl) (x4 x10 x11 x12 : Option D), z = lwR ns vs (some (.int (cs.length : Int))) (some (.tup (cs.map csD))) x4 (some (natT X)) (some (.tup (fo.map natT))) (some (famD cs X fo)) (some (iL us)) (some (tlD T)) x10 x11 x12 none none none none ∧ TV cs T ∧ lenT T ≤ 60) ?_ ?_)
  · array_get_dec
    refine ⟨fun _ => ?_, fun _ => ss_nx ⟨T, none, none, none, none, rfl, hT, by omega⟩⟩
    obtain ⟨r, b, rfl⟩ : ∃ r b, T = r ++ [b] := ⟨T.dropLast, T.getLast hT.ne, (List.dropLast_concat_getLast hT.ne).symm⟩
    obtain ⟨c, ss⟩ := b
    have hb := hT.bs _ (List.mem_append_right _ (List.mem_singleton.mpr rfl))
    have hc : c < cs.length := hb.1
    have hcm := (sh_len hfam hc)
    have hrl : r.length ≤ 60 := by
      have := len_cnt hT.bs
      rw [List.length_append] at this
      omega
    have hln : lenT r + (ss.length + 0) ≤ 8 := by
      have h := hTl
      rw [lenT_app] at h
      have h2 : lenT r + (ss.length + 0) ≤ qs.length + 1 := h
      omega
    obtain ⟨n, hn, hn29⟩ : ∃ n : Nat, u2 + 10 = (n : Int) ∧ n ≤ 29 := ⟨(u2 + 10).toNat, by omega, by omega⟩
    refine ss_seq (ss_cut (fun z => z = lwR ns vs (some (.int (cs.length : Int))) (some (.tup (cs.map csD))) none (some (natT X)) (some (.tup (fo.map natT))) (some (famD cs X fo)) (some (iL us)) (some (tlD (r ++ [(c, ss)]))) (some (kI c)) (some (natT ss)) none none none none none) ?_ ?_)
    · refine ss_asg (rs_op (rs_var rfl (rs_un (rs_c (rs_neg (rs_ixT (d := blkT (c, ss)) ?_ ⟨_, rfl, rfl⟩))))))
      rw [List.map_append]
      exact atI_last' _ _
    rintro _ rfl
    refine ss_seq (ss_cut (fun z => z = lwR ns vs (some (.int (cs.length : Int))) (some (.tup (cs.map csD))) none (some (natT X)) (some (.tup (fo.map natT))) (some (famD cs X fo)) (some (iL us)) (some (tlD (r ++ [(c, ss)]))) (some (kI c)) (some (natT ss)) (some (natT ((List.range n).map fun k => k % (cs.getD c default).mn.length))) none none none none) ?_ ?_)
    · refine ss_set (rs_call (rs_cons (rs_lc kI (fun k => kI (k % (cs.getD c default).mn.length)) (List.range n) (rs_rngC (n := n) ?_ (by omega)) (Nat.le_trans (m := 100) (by rw [List.length_range]; omega) (by decide)) (fun k hk => ⟨_, rfl, rfl, ?_⟩) (rs_nil (rs_tupL ?_)))))
      · array_get_dec
        rw [hn]
      · refine rs_op (rs_call (rs_cons (rs_var rfl (rs_nil (rs_int (rs_call (rs_cons (rs_op (rs_op (rs_var rfl (rs_var rfl (rs_case hc (rs_c (rs_menu (rs_nil (rs_lenT ?_))))))))))))))))
        rw [List.length_map]
        exact rs_mod (by omega) rfl
      · unfold natT
        rw [List.map_map]
        rfl
    rintro _ rfl
    obtain ⟨mo, hmo⟩ : ∃ mo, mo = (List.range n).map fun k => k % (cs.getD c default).mn.length := ⟨_, rfl⟩
    have hmol : mo.length = n := by rw [hmo, List.length_map, List.length_range]
    have hmov : ∀ k ∈ mo, VK cs c k := fun k hk => by
      rw [hmo] at hk
      obtain ⟨a, _, rfl⟩ := List.mem_map.mp hk
      exact ⟨hc, Nat.mod_lt _ hcm.1⟩
    rw [← hmo]
    clear hmo
    refine ss_set (rs_op (rs_sl (rs_var rfl (rs_noP (rs_part (rs_un (rs_c (rs_neg (rs_asI (rs_slT ?_))))))))))
    rw [List.map_append]
    show Rs (dTup _ _) (fun d => Rs (addD (.tup (cutL (r.map blkT ++ [blkT (c, ss)]) none (some (-1)))) d) _ _) _
    rw [cut_init]
    refine rs_tup (rs_cons (rs_tup (rs_cons (rs_var rfl (rs_cons (rs_op (rs_var rfl (rs_var rfl (rs_addT ?_ (rs_nil ⟨Nat.le_of_ble_eq_true rfl, rs_nil ⟨Nat.le_of_ble_eq_true rfl, rs_addT ?_ ?_⟩⟩))))))))))
    · rw [List.length_map, List.length_map]
      exact Nat.le_trans (m := 1000) (by omega) (by decide)
    · rw [List.length_map, List.length_cons, List.length_nil]
      exact Nat.le_trans (m := 1000) (by omega) (by decide)
    · refine ⟨r ++ [(c, ss ++ mo)], none, some (kI c), some (natT ss), some (natT mo), ?_, ⟨fun z => List.cons_ne_nil _ _ (List.append_eq_nil_iff.mp z).2, fun b hb' => ?_⟩, ?_⟩
      · have e2 : [(c, ss ++ mo)].map blkT = [.tup [.int (c : Int), .tup (ss.map kI ++ mo.map kI)]] := by
          show [D.tup [.int (c : Int), .tup ((ss ++ mo).map kI)]] = _
          rw [List.map_append]
        have e3 : tlD (r ++ [(c, ss ++ mo)]) = .tup (r.map blkT ++ [.tup [.int (c : Int), .tup (ss.map kI ++ mo.map kI)]]) := by
          unfold tlD
          rw [List.map_append, e2]
        rw [e3]
        rfl
      · rcases List.mem_append.mp hb' with hb' | hb'
        · exact hT.bs b (List.mem_append_left _ hb')
        · rw [List.mem_singleton.mp hb']
          refine ⟨hc, fun z => hb.2.1 (List.append_eq_nil_iff.mp z).1, fun k hk' => ?_⟩
          rcases List.mem_append.mp hk' with hk' | hk'
          · exact hb.2.2 k hk'
          · exact hmov k hk'
      · rw [lenT_app]
        show lenT r + ((ss ++ mo).length + 0) ≤ 60
        rw [List.length_append]
        omega
  clear et hT hTl T
  rintro _ ⟨T, x4, x10, x11, x12, rfl, hT, hTl⟩
  have hTok := tok_of hT hTl
  refine ss_seq (ss_cut (fun z => z = lwR ns vs (some (.int (cs.length : Int))) (some (.tup (cs.map csD))) x4 (some (natT X)) (some (.tup (fo.map natT))) (some (famD cs X fo)) (some (iL us)) (some (tlD T)) x10 x11 x12 (some (bL (bksF cs T))) none none none) ?_ ?_)
  · exact ss_set (rs_call (rs_cons (rs_var rfl (rs_cons (rs_var rfl (rs_nil (Rs.of (blocks_eq hw hTok) rfl)))))))
  rintro _ rfl
  refine ss_seq (ss_cut (fun z => z = lwR ns vs (some (.int (cs.length : Int))) (some (.tup (cs.map csD))) x4 (some (natT X)) (some (.tup (fo.map natT))) (some (famD cs X fo)) (some (iL us)) (some (tlD T)) x10 x11 x12 (some (bL (bksF cs T))) none none none) ?_ ?_)
  · refine ss_if (rs_not (rs_T (rs_call (rs_cons (rs_gal hw hTok rfl rfl (rs_cons (rs_var rfl (rs_nil (Rs.of (galley_is_eq hw hTok) (rs_asB ?_))))))))))
    exact ⟨fun c => (by cases c), fun _ => ss_nx rfl⟩
  rintro _ rfl
  have hX0 : 0 < X.length := List.length_pos_iff.mpr hX1
  have hx0 : X.getD 0 0 < cs.length := hX2.2 _ (getD_mem hX0)
  refine ss_seq (ss_cut (fun z => z = lwR ns vs (some (.int (cs.length : Int))) (some (.tup (cs.map csD))) x4 (some (natT X)) (some (.tup (fo.map natT))) (some (famD cs X fo)) (some (iL us)) (some (tlD T)) x10 x11 x12 (some (bL (bksF cs T))) (some (tlD [(X.getD 0 0, [0])])) none none) ?_ ?_)
  · refine ss_set (rs_tup (rs_cons (rs_tup (rs_cons (rs_op (rs_var rfl (rs_c (rs_nat hX0 (rs_cons (rs_tup (rs_cons (rs_c (rs_nil ⟨Nat.le_of_ble_eq_true rfl, rs_nil ⟨Nat.le_of_ble_eq_true rfl, rs_nil ⟨Nat.le_of_ble_eq_true rfl, ?_⟩⟩⟩)))))))))))))
    rfl
  rintro _ rfl
  have hS : TV cs [(X.getD 0 0, [0])] := ⟨List.cons_ne_nil _ _, fun b hb => by
    rw [List.mem_singleton.mp hb]
    exact ⟨hx0, List.cons_ne_nil _ _, fun k hk => by rw [List.mem_singleton.mp hk]; exact ⟨hx0, (sh_len hfam hx0).1⟩⟩⟩
  have hSok := tok_of hS (by show ([0] : List Nat).length + 0 ≤ 60; decide)
  generalize [(X.getD 0 0, [0])] = S at hSok
  refine ss_seq (ss_cut (fun z => z = lwR ns vs (some (.int (cs.length : Int))) (some (.tup (cs.map csD))) x4 (some (natT X)) (some (.tup (fo.map natT))) (some (famD cs X fo)) (some (iL us)) (some (tlD T)) x10 x11 x12 (some (bL (bksF cs T))) (some (tlD S)) none none) ?_ ?_)
  · refine ss_if (rs_not (rs_T (rs_call (rs_cons (rs_gal hw hSok rfl rfl (rs_cons (rs_call (rs_cons (rs_var rfl (rs_cons (rs_var rfl (rs_nil (Rs.of (blocks_eq hw hSok) (rs_nil (Rs.of (galley_is_eq hw hSok) (rs_asB ?_))))))))))))))))
    exact ⟨fun c => (by cases c), fun _ => ss_nx rfl⟩
  rintro _ rfl
  refine ss_seq (ss_cut (fun z => z = lwR ns vs (some (.int (cs.length : Int))) (some (.tup (cs.map csD))) x4 (some (natT X)) (some (.tup (fo.map natT))) (some (famD cs X fo)) (some (iL us)) (some (tlD T)) x10 x11 x12 (some (bL (bksF cs T))) (some (tlD S)) none none) ?_ ?_)
  · refine ss_if (rs_not (rs_T (rs_call (rs_cons (rs_gal hw hTok rfl rfl (rs_cons (rs_var rfl (rs_nil (Rs.of (galley_is_eq hw hTok) (rs_asB ?_))))))))))
    exact ⟨fun c => (by cases c), fun _ => ss_nx rfl⟩
  rintro _ rfl
  refine ss_seq (ss_cut (fun z => ∃ tot : Int, z = lwR ns vs (some (.int (cs.length : Int))) (some (.tup (cs.map csD))) x4 (some (natT X)) (some (.tup (fo.map natT))) (some (famD cs X fo)) (some (iL us)) (some (tlD T)) x10 x11 x12 (some (bL (bksF cs T))) (some (tlD S)) (some (.int tot)) none) ?_ ?_)
  · refine ss_set (rs_call (rs_cons (rs_lc csD (fun c => .int (c.mn.length : Int)) cs (rs_it (rs_var rfl (rs_itsT rfl))) (Nat.le_trans (m := 10) (by omega) (by decide)) (fun c hc => ⟨_, rfl, rfl, ?_⟩) (rs_nil ?_))))
    · refine rs_call (rs_cons (rs_op (rs_var rfl (rs_c (rs_menu (rs_nil (rs_lenT ?_)))))))
      rw [List.length_map]
    · have e : (cs.map fun c => D.int (c.mn.length : Int)) = (cs.map fun c => (c.mn.length : Int)).map D.int := by rw [List.map_map]; rfl
      rw [e]
      exact rs_sum ⟨_, rfl⟩
  rintro _ ⟨tot, rfl⟩
  refine ss_seq (ss_set (rs_c ?_))
  refine ss_seq (ss_cut (fun z => ∃ mo : Int, z = lwR ns vs (some (.int (cs.length : Int))) (some (.tup (cs.map csD))) x4 (some (natT X)) (some (.tup (fo.map natT))) (some (famD cs X fo)) (some (iL us)) (some (tlD T)) x10 x11 x12 (some (bL (bksF cs T))) (some (tlD S)) (some (.int tot)) (some (.int mo)) ∧ 0 < mo ∧ mo ≤ 5) ?_ ?_)
  · exact ss_if (rs_T (rs_op (rs_var rfl (rs_c (rs_le (rs_asB ⟨fun _ => ss_set (rs_c ⟨3, rfl, by decide, by decide⟩), fun _ => ss_nx ⟨2, rfl, by decide, by decide⟩⟩))))))
  rintro _ ⟨mo, rfl, hmo1, hmo2⟩
  refine ss_seq (ss_cut (fun z => ∃ mo : Int, z = lwR ns vs (some (.int (cs.length : Int))) (some (.tup (cs.map csD))) x4 (some (natT X)) (some (.tup (fo.map natT))) (some (famD cs X fo)) (some (iL us)) (some (tlD T)) x10 x11 x12 (some (bL (bksF cs T))) (some (tlD S)) (some (.int tot)) (some (.int mo)) ∧ 0 < mo ∧ mo ≤ 5) ?_ ?_)
  · exact ss_if (rs_T (rs_op (rs_var rfl (rs_c (rs_le (rs_asB ⟨fun _ => ss_set (rs_c ⟨5, rfl, by decide, by decide⟩), fun _ => ss_nx ⟨mo, rfl, hmo1, hmo2⟩⟩))))))
  clear hmo1 hmo2
  rintro _ ⟨mo, rfl, hmo1, hmo2⟩
  obtain ⟨k, hk, hk5⟩ : ∃ k : Nat, 1 + v9 % mo = ((k + 1 : Nat) : Int) ∧ k < 5 := by
    have h1 := Int.emod_nonneg v9 (show mo ≠ 0 by omega)
    have h2 := Int.emod_lt_of_pos v9 hmo1
    exact ⟨(v9 % mo).toNat, by omega, by omega⟩
  refine ss_ret (rs_call (rs_cons (rs_var rfl (rs_cons (rs_var rfl (rs_cons (rs_var rfl (rs_cons (rs_var rfl (rs_cons (rs_op (rs_c (rs_op (rs_call (rs_cons (rs_op (rs_var rfl (rs_c (rs_ixL j9 (rs_nil (rs_int (rs_var rfl (rs_mod hmo1 (rs_add ?_))))))))))))))))))))))))
  rw [hk]
  refine rs_nil (Rs.of (all_told_eq hf hX2 (by omega) (fun c hc => (hok c hc).l) k hk5) ?_)
  rfl)
end
end Lk
end S_MM_base
section S_P_walk
set_option Elab.async false
set_option linter.all false
set_option maxRecDepth 100000
set_option maxHeartbeats 4000000
namespace Lk
open PySem L2 Dx
def topS (i : Nat) : Stmt := PySem.Challenge.pw_laidforall_k44_families.main.body.getD i (.Pass ⟨0, 0, 0, 0⟩)
abbrev s_pieces_in : Stmt := topS 7
theorem sc_pieces_in : FnScope ["blocks", "block", "piece"] ["blocks"] (defScope s_pieces_in) := ⟨rfl, rfl, rfl, by decide +kernel, rfl, by decide +kernel, by decide +kernel⟩
abbrev s_figures_in : Stmt := topS 8
theorem sc_figures_in : FnScope ["blocks", "piece", "height"] ["blocks"] (defScope s_figures_in) := ⟨rfl, rfl, rfl, by decide +kernel, rfl, by decide +kernel, by decide +kernel⟩
abbrev s_spans_in : Stmt := topS 9
theorem sc_spans_in : FnScope ["blocks", "spans", "at", "block", "start", "end"] ["blocks"] (defScope s_spans_in) := ⟨rfl, rfl, rfl, by decide +kernel, rfl, by decide +kernel, by decide +kernel⟩
abbrev s_Galley_init : Stmt := inClass (topS 10) 0
theorem sc_Galley_init : FnScope ["self", "blocks", "pieces", "figures"] ["self", "blocks"] (defScope s_Galley_init) := ⟨rfl, rfl, rfl, by decide +kernel, rfl, by decide +kernel, by decide +kernel⟩
abbrev s_Galley_len : Stmt := inClass (topS 10) 1
theorem sc_Galley_len : FnScope ["self"] ["self"] (defScope s_Galley_len) := ⟨rfl, rfl, rfl, by decide +kernel, rfl, by decide +kernel, by decide +kernel⟩
abbrev s_long_galley : Stmt := topS 11
theorem sc_long_galley : FnScope ["blocks", "galley"] ["blocks"] (defScope s_long_galley) := ⟨rfl, rfl, rfl, by decide +kernel, rfl, by decide +kernel, by decide +kernel⟩
abbrev s_rows_below : Stmt := topS 13
theorem sc_rows_below : GScope ["many", "most", "index", "rest"] ["many", "most"] (defScope s_rows_below) := ⟨rfl, rfl, rfl, by decide +kernel, rfl, by decide +kernel, by decide +kernel⟩
theorem nc_rows_below : NoCell (defScope s_rows_below) := by unfold NoCell; decide +kernel
abbrev s_block_of_case : Stmt := topS 14
theorem sc_block_of_case : FnScope ["case", "shapes", "blank", "hyphen", "menu", "pieces", "index", "widths", "at", "tie"] ["case", "shapes"] (defScope s_block_of_case) := ⟨rfl, rfl, rfl, by decide +kernel, rfl, by decide +kernel, by decide +kernel⟩
abbrev s_Family_init : Stmt := inClass (topS 15) 0
theorem sc_Family_init : FnScope ["self", "cases", "firsts", "follows", "row"] ["self", "cases", "firsts", "follows"] (defScope s_Family_init) := ⟨rfl, rfl, rfl, by decide +kernel, rfl, by decide +kernel, by decide +kernel⟩
abbrev s_Family_galley_of : Stmt := inClass (topS 15) 1
theorem sc_Family_galley_of : FnScope ["self", "telling", "case", "shapes"] ["self", "telling"] (defScope s_Family_galley_of) := ⟨rfl, rfl, rfl, by decide +kernel, rfl, by decide +kernel, by decide +kernel⟩
abbrev s_Family_tellings_from : Stmt := inClass (topS 15) 3
theorem sc_Family_tellings_from : GScope ["self", "firsts", "length", "case", "shapes", "rest"] ["self", "firsts", "length"] (defScope s_Family_tellings_from) := ⟨rfl, rfl, rfl, by decide +kernel, rfl, by decide +kernel, by decide +kernel⟩
theorem nc_Family_tellings_from : NoCell (defScope s_Family_tellings_from) := by unfold NoCell; decide +kernel
abbrev s_Family_every_telling : Stmt := inClass (topS 15) 2
theorem sc_Family_every_telling : GScope ["self", "length", "telling"] ["self", "length"] (defScope s_Family_every_telling) := ⟨rfl, rfl, rfl, by decide +kernel, rfl, by decide +kernel, by decide +kernel⟩
theorem nc_Family_every_telling : NoCell (defScope s_Family_every_telling) := by unfold NoCell; decide +kernel
abbrev s_l_cell : Stmt := topS 17
theorem sc_l_cell : FnScope ["_law_script", "_law_k"] ["_law_script", "_law_k"] (defScope s_l_cell) := ⟨rfl, rfl, rfl, by decide +kernel, rfl, by decide +kernel, by decide +kernel⟩
abbrev s_l_row : Stmt := topS 18
theorem sc_l_row : FnScope ["_law_cell_here", "_law_limits", "_law_row_here", "_law_rest", "_law_limit", "_law_k", "_law_mixed"] ["_law_cell_here", "_law_limits"] (defScope s_l_row) := ⟨rfl, rfl, rfl, by decide +kernel, rfl, by decide +kernel, by decide +kernel⟩
abbrev s_l_number : Stmt := topS 19
theorem sc_l_number : FnScope ["_law_value"] ["_law_value"] (defScope s_l_number) := ⟨rfl, rfl, rfl, by decide +kernel, rfl, by decide +kernel, by decide +kernel⟩
abbrev s_l_same : Stmt := topS 20
theorem sc_l_same : FnScope ["_law_one", "_law_two", "_law_k"] ["_law_one", "_law_two"] (defScope s_l_same) := ⟨rfl, rfl, rfl, by decide +kernel, rfl, by decide +kernel, by decide +kernel⟩
abbrev s_l_case : Stmt := topS 21
theorem sc_l_case : FnScope ["_law_cell_here", "_law_limits", "_law_k", "_law_row_here", "_law_shapes", "_law_part", "_law_width"] ["_law_cell_here"] (defScope s_l_case) := ⟨rfl, rfl, rfl, by decide +kernel, rfl, by decide +kernel, by decide +kernel⟩
abbrev s_l_some : Stmt := topS 22
theorem sc_l_some : FnScope ["_law_bits", "_law_many", "_law_turned", "_law_some_here", "_law_k"] ["_law_bits", "_law_many", "_law_turned"] (defScope s_l_some) := ⟨rfl, rfl, rfl, by decide +kernel, rfl, by decide +kernel, by decide +kernel⟩
abbrev s_l_telling : Stmt := topS 23
theorem sc_l_telling : FnScope ["_law_cases", "_law_firsts", "_law_follows", "_law_picks", "_law_case_here", "_law_told", "_law_pick", "_law_shapes", "_law_ways", "_law_k", "_law_many", "_law_other", "_law_at"] ["_law_cases", "_law_firsts", "_law_follows", "_law_picks"] (defScope s_l_telling) := ⟨rfl, rfl, rfl, by decide +kernel, rfl, by decide +kernel, by decide +kernel⟩
abbrev s_l_blocks : Stmt := topS 24
theorem sc_l_blocks : FnScope ["_law_cases", "_law_telling_here", "_law_blocks_here", "_law_case_here", "_law_shapes", "_law_row_here", "_law_pieces", "_law_k", "_law_widths", "_law_j", "_law_tie"] ["_law_cases", "_law_telling_here"] (defScope s_l_blocks) := ⟨rfl, rfl, rfl, by decide +kernel, rfl, by decide +kernel, by decide +kernel⟩
abbrev s_l_galley_is : Stmt := topS 25
theorem sc_l_galley_is : FnScope ["_law_galley", "_law_blocks_here", "_law_block"] ["_law_galley", "_law_blocks_here"] (defScope s_l_galley_is) := ⟨rfl, rfl, rfl, by decide +kernel, rfl, by decide +kernel, by decide +kernel⟩
abbrev s_l_is_telling : Stmt := topS 26
theorem sc_l_is_telling : FnScope ["_law_cases", "_law_firsts", "_law_follows", "_law_telling_here", "_law_length", "_law_total", "_law_before", "_law_pair", "_law_shape"] ["_law_cases", "_law_firsts", "_law_follows", "_law_telling_here", "_law_length"] (defScope s_l_is_telling) := ⟨rfl, rfl, rfl, by decide +kernel, rfl, by decide +kernel, by decide +kernel⟩
abbrev s_l_count : Stmt := topS 27
theorem sc_l_count : FnScope ["_law_cases", "_law_firsts", "_law_follows", "_law_length", "_law_ways", "_law_case_here", "_law_step", "_law_grown", "_law_total", "_law_other"] ["_law_cases", "_law_firsts", "_law_follows", "_law_length"] (defScope s_l_count) := ⟨rfl, rfl, rfl, by decide +kernel, rfl, by decide +kernel, by decide +kernel⟩
abbrev s_l_all_told : Stmt := topS 28
theorem sc_l_all_told : FnScope ["_law_family", "_law_cases", "_law_firsts", "_law_follows", "_law_length", "_law_tellings", "_law_k"] ["_law_family", "_law_cases", "_law_firsts", "_law_follows", "_law_length"] (defScope s_l_all_told) := ⟨rfl, rfl, rfl, by decide +kernel, rfl, by decide +kernel, by decide +kernel⟩
abbrev s_law : Stmt := topS 29
theorem sc_law : FnScope ["_law_script", "_law_way", "_law_many", "_law_cases", "_law_k", "_law_firsts", "_law_follows", "_law_family", "_law_row_here", "_law_telling_here", "_law_case_here", "_law_shapes", "_law_more", "_law_blocks_here", "_law_short", "_law_total", "_law_most"] ["_law_script"] (defScope s_law) := ⟨rfl, rfl, rfl, by decide +kernel, rfl, by decide +kernel, by decide +kernel⟩
abbrev s_Galley_iter : Stmt := inClass (topS 10) 2
theorem sc_Galley_iter : FnScope ["self"] ["self"] (defScope s_Galley_iter) := ⟨rfl, rfl, rfl, by decide +kernel, rfl, by decide +kernel, by decide +kernel⟩
abbrev s_TooLarge : Stmt := inClass (topS 3) 0
theorem sc_TooLarge : FnScope ["self", "many"] ["self", "many"] (defScope s_TooLarge) := ⟨rfl, rfl, rfl, by decide +kernel, rfl, by decide +kernel, by decide +kernel⟩
structure Txt (K : PySem.W.Frag) (mg : Str → Option Value) where
  f_pieces_in : Addr
  fd_pieces_in : FuncData
  F_pieces_in : Fun K "pieces_in" "pieces_in" s_pieces_in f_pieces_in fd_pieces_in
  g_pieces_in : mg "pieces_in" = some (.ref f_pieces_in)
  b_pieces_in : L2.Binds K fd_pieces_in ["blocks"] []
  f_figures_in : Addr
  fd_figures_in : FuncData
  F_figures_in : Fun K "figures_in" "figures_in" s_figures_in f_figures_in fd_figures_in
  g_figures_in : mg "figures_in" = some (.ref f_figures_in)
  b_figures_in : L2.Binds K fd_figures_in ["blocks"] []
  f_spans_in : Addr
  fd_spans_in : FuncData
  F_spans_in : Fun K "spans_in" "spans_in" s_spans_in f_spans_in fd_spans_in
  g_spans_in : mg "spans_in" = some (.ref f_spans_in)
  b_spans_in : L2.Binds K fd_spans_in ["blocks"] []
  f_Galley_init : Addr
  fd_Galley_init : FuncData
  F_Galley_init : FunE K "__init__" "Galley.__init__" s_Galley_init f_Galley_init fd_Galley_init
  b_Galley_init : L2.Binds K fd_Galley_init ["self", "blocks"] []
  e_Galley_init : Addr
  bd_Galley_init : L2.Binds K fd_Galley_init ["self", "blocks"] [.ref e_Galley_init]
  kt_Galley_init : ∀ {cm : CM} (S : Hp), Rp K cm S (.ref e_Galley_init) (.kt [])
  f_Galley_len : Addr
  fd_Galley_len : FuncData
  F_Galley_len : Fun K "__len__" "Galley.__len__" s_Galley_len f_Galley_len fd_Galley_len
  b_Galley_len : L2.Binds K fd_Galley_len ["self"] []
  f_long_galley : Addr
  fd_long_galley : FuncData
  F_long_galley : Fun K "long_galley" "long_galley" s_long_galley f_long_galley fd_long_galley
  g_long_galley : mg "long_galley" = some (.ref f_long_galley)
  b_long_galley : L2.Binds K fd_long_galley ["blocks"] []
  f_rows_below : Addr
  fd_rows_below : FuncData
  F_rows_below : Fun K "rows_below" "rows_below" s_rows_below f_rows_below fd_rows_below
  g_rows_below : mg "rows_below" = some (.ref f_rows_below)
  b_rows_below : L2.Binds K fd_rows_below ["many", "most"] []
  f_block_of_case : Addr
  fd_block_of_case : FuncData
  F_block_of_case : Fun K "block_of_case" "block_of_case" s_block_of_case f_block_of_case fd_block_of_case
  g_block_of_case : mg "block_of_case" = some (.ref f_block_of_case)
  b_block_of_case : L2.Binds K fd_block_of_case ["case", "shapes"] []
  f_Family_init : Addr
  fd_Family_init : FuncData
  F_Family_init : Fun K "__init__" "Family.__init__" s_Family_init f_Family_init fd_Family_init
  b_Family_init : L2.Binds K fd_Family_init ["self", "cases", "firsts", "follows"] []
  f_Family_galley_of : Addr
  fd_Family_galley_of : FuncData
  F_Family_galley_of : Fun K "galley_of" "Family.galley_of" s_Family_galley_of f_Family_galley_of fd_Family_galley_of
  b_Family_galley_of : L2.Binds K fd_Family_galley_of ["self", "telling"] []
  f_Family_tellings_from : Addr
  fd_Family_tellings_from : FuncData
  F_Family_tellings_from : Fun K "tellings_from" "Family.tellings_from" s_Family_tellings_from f_Family_tellings_from fd_Family_tellings_from
  b_Family_tellings_from : L2.Binds K fd_Family_tellings_from ["self", "firsts", "length"] []
  f_Family_every_telling : Addr
  fd_Family_every_telling : FuncData
  F_Family_every_telling : Fun K "every_telling" "Family.every_telling" s_Family_every_telling f_Family_every_telling fd_Family_every_telling
  b_Family_every_telling : L2.Binds K fd_Family_every_telling ["self", "length"] []
  f_l_cell : Addr
  fd_l_cell : FuncData
  F_l_cell : Fun K "_law_cell" "_law_cell" s_l_cell f_l_cell fd_l_cell
  g_l_cell : mg "_law_cell" = some (.ref f_l_cell)
  b_l_cell : L2.Binds K fd_l_cell ["_law_script", "_law_k"] []
  f_l_row : Addr
  fd_l_row : FuncData
  F_l_row : Fun K "_law_row" "_law_row" s_l_row f_l_row fd_l_row
  g_l_row : mg "_law_row" = some (.ref f_l_row)
  b_l_row : L2.Binds K fd_l_row ["_law_cell_here", "_law_limits"] []
  f_l_number : Addr
  fd_l_number : FuncData
  F_l_number : Fun K "_law_number" "_law_number" s_l_number f_l_number fd_l_number
  g_l_number : mg "_law_number" = some (.ref f_l_number)
  b_l_number : L2.Binds K fd_l_number ["_law_value"] []
  f_l_same : Addr
  fd_l_same : FuncData
  F_l_same : Fun K "_law_same" "_law_same" s_l_same f_l_same fd_l_same
  g_l_same : mg "_law_same" = some (.ref f_l_same)
  b_l_same : L2.Binds K fd_l_same ["_law_one", "_law_two"] []
  f_l_case : Addr
  fd_l_case : FuncData
  F_l_case : Fun K "_law_case" "_law_case" s_l_case f_l_case fd_l_case
  g_l_case : mg "_law_case" = some (.ref f_l_case)
  b_l_case : L2.Binds K fd_l_case ["_law_cell_here"] []
  f_l_some : Addr
  fd_l_some : FuncData
  F_l_some : Fun K "_law_some" "_law_some" s_l_some f_l_some fd_l_some
  g_l_some : mg "_law_some" = some (.ref f_l_some)
  b_l_some : L2.Binds K fd_l_some ["_law_bits", "_law_many", "_law_turned"] []
  f_l_telling : Addr
  fd_l_telling : FuncData
  F_l_telling : Fun K "_law_telling" "_law_telling" s_l_telling f_l_telling fd_l_telling
  g_l_telling : mg "_law_telling" = some (.ref f_l_telling)
  b_l_telling : L2.Binds K fd_l_telling ["_law_cases", "_law_firsts", "_law_follows", "_law_picks"] []
  f_l_blocks : Addr
  fd_l_blocks : FuncData
  F_l_blocks : Fun K "_law_blocks" "_law_blocks" s_l_blocks f_l_blocks fd_l_blocks
  g_l_blocks : mg "_law_blocks" = some (.ref f_l_blocks)
  b_l_blocks : L2.Binds K fd_l_blocks ["_law_cases", "_law_telling_here"] []
  f_l_galley_is : Addr
  fd_l_galley_is : FuncData
  F_l_galley_is : Fun K "_law_galley_is" "_law_galley_is" s_l_galley_is f_l_galley_is fd_l_galley_is
  g_l_galley_is : mg "_law_galley_is" = some (.ref f_l_galley_is)
  b_l_galley_is : L2.Binds K fd_l_galley_is ["_law_galley", "_law_blocks_here"] []
  f_l_is_telling : Addr
  fd_l_is_telling : FuncData
  F_l_is_telling : Fun K "_law_is_telling" "_law_is_telling" s_l_is_telling f_l_is_telling fd_l_is_telling
  g_l_is_telling : mg "_law_is_telling" = some (.ref f_l_is_telling)
  b_l_is_telling : L2.Binds K fd_l_is_telling ["_law_cases", "_law_firsts", "_law_follows", "_law_telling_here", "_law_length"] []
  f_l_count : Addr
  fd_l_count : FuncData
  F_l_count : Fun K "_law_count" "_law_count" s_l_count f_l_count fd_l_count
  g_l_count : mg "_law_count" = some (.ref f_l_count)
  b_l_count : L2.Binds K fd_l_count ["_law_cases", "_law_firsts", "_law_follows", "_law_length"] []
  f_l_all_told : Addr
  fd_l_all_told : FuncData
  F_l_all_told : Fun K "_law_all_told" "_law_all_told" s_l_all_told f_l_all_told fd_l_all_told
  g_l_all_told : mg "_law_all_told" = some (.ref f_l_all_told)
  b_l_all_told : L2.Binds K fd_l_all_told ["_law_family", "_law_cases", "_law_firsts", "_law_follows", "_law_length"] []
  f_law : Addr
  fd_law : FuncData
  F_law : Fun K "law" "law" s_law f_law fd_law
  g_law : mg "law" = some (.ref f_law)
  b_law : L2.Binds K fd_law ["_law_script"] []
  f_Galley_iter : Addr
  fd_Galley_iter : FuncData
  F_Galley_iter : Fun K "__iter__" "Galley.__iter__" s_Galley_iter f_Galley_iter fd_Galley_iter
  b_Galley_iter : L2.Binds K fd_Galley_iter ["self"] []
  n_bool : mg "bool" = none
  n_enumerate : mg "enumerate" = none
  n_int : mg "int" = none
  n_isinstance : mg "isinstance" = none
  n_iter : mg "iter" = none
  n_len : mg "len" = none
  n_list : mg "list" = none
  n_range : mg "range" = none
  n_set : mg "set" = none
  n_sorted : mg "sorted" = none
  n_str : mg "str" = none
  n_sum : mg "sum" = none
  n_tuple : mg "tuple" = none
  t_MOST_FIGURES : Tok
  c_MOST_FIGURES : mg "MOST_FIGURES" = some (.int 4 t_MOST_FIGURES)
  t_MOST_PIECES : Tok
  c_MOST_PIECES : mg "MOST_PIECES" = some (.int 40 t_MOST_PIECES)
  a_TooLarge : Addr
  g_TooLarge : mg "TooLarge" = some (.ref a_TooLarge)
  o_TooLarge : OexC K a_TooLarge
  fI_TooLarge : Addr
  fdI_TooLarge : FuncData
  i_TooLarge : PySem.W.findIn K (.ref a_TooLarge) "__init__" = some (some (.ref fI_TooLarge))
  ti_TooLarge : PySem.W.typeIn K (.ref fI_TooLarge) = some (.type "function")
  FI_TooLarge : Fun K "__init__" "TooLarge.__init__" s_TooLarge fI_TooLarge fdI_TooLarge
  b_TooLarge : L2.Binds K fdI_TooLarge ["self", "many"] []
  no_TooLarge_many : PySem.W.findIn K (.ref a_TooLarge) "many" = some none
  xf_TooLarge : XfC K a_TooLarge
  xc_TooLarge : ExcC K a_TooLarge
  a_Family : Addr
  g_Family : mg "Family" = some (.ref a_Family)
  cl_Family : L2.Cls K a_Family
  a_Galley : Addr
  g_Galley : mg "Galley" = some (.ref a_Galley)
  cl_Galley : L2.Cls K a_Galley
  mk_Family : L2.Mk K a_Family f_Family_init
  mk_Galley : L2.Mk K a_Galley f_Galley_init
  na_Family_cases : L2.NoAttr K a_Family "cases"
  na_Family_firsts : L2.NoAttr K a_Family "firsts"
  na_Family_follows : L2.NoAttr K a_Family "follows"
  na_Galley_all_figures : L2.NoAttr K a_Galley "all_figures"
  na_Galley_all_pieces : L2.NoAttr K a_Galley "all_pieces"
  na_Galley_blocks : L2.NoAttr K a_Galley "blocks"
  na_Galley_spans : L2.NoAttr K a_Galley "spans"
  m_Family_every_telling : L2.Meth K a_Family "every_telling" f_Family_every_telling
  m_Family_galley_of : L2.Meth K a_Family "galley_of" f_Family_galley_of
  m_Family_tellings_from : L2.Meth K a_Family "tellings_from" f_Family_tellings_from
  m_Galley___iter__ : L2.Meth K a_Galley "__iter__" f_Galley_iter
  m_Galley___len__ : L2.Meth K a_Galley "__len__" f_Galley_len
  ic_Galley : IsC K a_Galley
def Txt.cm {K : PySem.W.Frag} {mg : Str → Option Value} (T : Txt K mg) : CM := fun n => if n = "TooLarge" then some T.a_TooLarge else if n = "Family" then some T.a_Family else if n = "Galley" then some T.a_Galley else none
section
variable {P : Program} {w : World} {K : PySem.W.Frag} {mg : Str → Option Value} {base : Heap}
theorem Txt.cm_TooLarge (T : Txt K mg) : T.cm "TooLarge" = some T.a_TooLarge := by unfold Txt.cm; rw [if_pos rfl]
theorem Txt.cm_Family (T : Txt K mg) : T.cm "Family" = some T.a_Family := by unfold Txt.cm; rw [if_neg (by decide), if_pos rfl]
theorem Txt.cm_Galley (T : Txt K mg) : T.cm "Galley" = some T.a_Galley := by unfold Txt.cm; rw [if_neg (by decide), if_neg (by decide), if_pos rfl]
theorem ox_TooLarge (T : Txt K mg) : FnOk P w K mg base (L2N.CX P w) 1 T.fI_TooLarge T.fdI_TooLarge ["self", "many"] (spX1 K T.a_TooLarge "many") := xinit1 T.FI_TooLarge sc_TooLarge rfl rfl fun cdv A outer s H E => pss_one (ps_ost (pv 0) (pv 1))
theorem ok_it_Galley (T : Txt K mg) : ItOk P w K mg base 1 T.f_Galley_iter T.a_Galley "blocks" := iter_ok T.F_Galley_iter sc_Galley_iter rfl rfl T.cl_Galley T.na_Galley_blocks T.b_Galley_iter fun cdv A outer s H E => pss_one (ps_ret (pe_callB ItX.call_iterN (by rfl) T.n_iter (by decide +kernel) (pa_cons (pe_fld (pv 0) rfl) pa_nil)))
theorem ok_ln_Galley (T : Txt K mg) : FnOk P w K mg base (L2N.CX P w) 1 T.f_Galley_len T.fd_Galley_len ["self"] (spLn K T.a_Galley "all_pieces") := len_ok T.F_Galley_len sc_Galley_len rfl rfl T.cl_Galley T.na_Galley_all_pieces fun cdv A outer s H E => pss_one (ps_ret (pe_callB call_lenX (by rfl) T.n_len (by decide +kernel) (pa_cons (pe_fld (pv 0) rfl) pa_nil)))
theorem ok_pieces_in (T : Txt K mg) : FnOk P w K mg base (L2N.CX P w) 1 T.f_pieces_in T.fd_pieces_in ["blocks"] (spD K T.cm [true] false F_pieces_in)   := dok (G' := []) (k := 0) T.F_pieces_in sc_pieces_in rfl (by decide) fun cdv A outer s H E hr =>
  (ds_one (ds_ret gok0 rfl (de_pub (de_lc2 (G' := [.b, .v, .v]) (G2 := [.b, .v, .v]) (own := [("block", 1), ("piece", 2)]) (vs1 := [2]) rfl sc_pieces_in.nd (noOwn_of rfl) (di_borX 0 (pv 0) rfl) (blkOk_by (own := [("block", 1), ("piece", 2)]) (N := ["blocks", "block", "piece"]) (sc := defScope s_pieces_in) (by decide +kernel)) (by decide) (fun _ _ _ _ _ => (dg_more (by decide) (dg_name 1 sc_pieces_in.nd rfl (by first | exact Or.inl rfl | exact Or.inr rfl)))) (fun _ _ _ _ _ => dt_nil) (fun _ _ _ _ _ => (di_tup (de_ix (db_var 1 (pv 1) (.inl (by rfl))) (db_of de_int) (fun _ _ => rfl)))) (fun _ _ _ _ _ => (dg_name 2 sc_pieces_in.nd rfl (by first | exact Or.inl rfl | exact Or.inr rfl))) (fun _ _ _ _ _ => dt_nil) (fun _ _ _ _ _ => (de_var 2 (pv 2) rfl))))))
theorem ok_figures_in (T : Txt K mg) : FnOk P w K mg base (L2N.CX P w) 2 T.f_figures_in T.fd_figures_in ["blocks"] (spD K T.cm [true] false F_figures_in)   := dok (G' := []) (k := 1) T.F_figures_in sc_figures_in rfl (by decide) fun cdv A outer s H E hr =>
  (ds_one (ds_ret gok0 rfl (de_pub (de_lc2 (G' := [.b, .v, .v]) (G2 := [.b, .v, .v]) (own := [("piece", 1), ("height", 2)]) (vs1 := [2]) rfl sc_figures_in.nd (noOwn_of rfl) (di_list (de_callV (ok_pieces_in T) (L2N.takes_of rfl rfl rfl rfl) (hr.mono (by decide)) (by rfl) T.g_pieces_in T.F_pieces_in.kp T.b_pieces_in (dm_bor (db_var 0 (pv 0) (.inr (.inr (by rfl)))) dm_nil))) (blkOk_by (own := [("piece", 1), ("height", 2)]) (N := ["blocks", "piece", "height"]) (sc := defScope s_figures_in) (by decide +kernel)) (by decide) (fun _ _ _ _ _ => (dg_more (by decide) (dg_name 1 sc_figures_in.nd rfl (by first | exact Or.inl rfl | exact Or.inr rfl)))) (fun _ _ _ _ _ => dt_nil) (fun _ _ _ _ _ => (di_tup (de_ix (db_var 1 (pv 1) (.inl (by rfl))) (db_of de_int) (fun _ _ => rfl)))) (fun _ _ _ _ _ => (dg_name 2 sc_figures_in.nd rfl (by first | exact Or.inl rfl | exact Or.inr rfl))) (fun _ _ _ _ _ => dt_nil) (fun _ _ _ _ _ => (de_var 2 (pv 2) rfl))))))
theorem ok_spans_in (T : Txt K mg) : FnOk P w K mg base (L2N.CX P w) 1 T.f_spans_in T.fd_spans_in ["blocks"] (spD K T.cm [true] false F_spans_in)   := dok (G' := []) (k := 0) T.F_spans_in sc_spans_in rfl (by decide) fun cdv A outer s H E hr =>
  (ds_cons (ds_setO 1 gok0 (show 1 < 6 by decide) sc_spans_in.nd rfl (by first | exact Or.inl rfl | exact Or.inr rfl) (de_lst da_nil))
  (ds_cons (ds_for gok0 (passes_of rfl) rfl (di_enumB 0 T.n_enumerate (by rfl) (pv 0) rfl) (dg_tup rfl (dg_cons (dg_name 2 sc_spans_in.nd rfl (by first | exact Or.inl rfl | exact Or.inr rfl)) (dg_cons (dg_name 3 sc_spans_in.nd rfl (by first | exact Or.inl rfl | exact Or.inr rfl)) dg_nil)))
  (ds_cons (ds_set 4 gok0 sc_spans_in.nd rfl (by first | exact Or.inl rfl | exact Or.inr rfl) (de_bltn call_len cs_len (by rfl) T.n_len (by decide +kernel) (dm_bor (db_var 1 (pv 1) (.inr (.inl (by trivial)))) dm_nil)))
  (ds_cons (ds_set 5 gok0 sc_spans_in.nd rfl (by first | exact Or.inl rfl | exact Or.inr rfl) (de_op or_add os_add (db_var 4 (pv 4) (.inl (by rfl))) (db_of (de_bltn call_len cs_len (by rfl) T.n_len (by decide +kernel) (dm_bor (db_of (de_ix (db_var 3 (pv 3) (.inl (by rfl))) (db_of de_int) (fun _ _ => rfl))) dm_nil)))))
  (ds_one (ds_ext 1 gok0 rfl (pv 1) (de_op or_mulX os_mulX (db_own (de_lst (da_cons (de_tup (da_cons (de_var 2 (pv 2) rfl) (da_cons (de_var 4 (pv 4) rfl) (da_cons (de_var 5 (pv 5) rfl) da_nil)))) da_nil))) (db_of (de_bltn call_len cs_len (by rfl) T.n_len (by decide +kernel) (dm_bor (db_of (de_ix (db_var 3 (pv 3) (.inl (by rfl))) (db_of de_int) (fun _ _ => rfl))) dm_nil)))))))))
  (ds_pub 1 (ds_one (ds_ret gok0 rfl (de_var 1 (pv 1) rfl))) (.inl rfl))))
theorem ok_Galley_init (T : Txt K mg) : FnOk P w K mg base (L2N.CX P w) 3 T.f_Galley_init T.fd_Galley_init ["self", "blocks"] (spI K T.cm T.a_Galley [true] F_Galley_init)   := dokIE (k := 2) T.F_Galley_init sc_Galley_init T.cm_Galley rfl (by decide) (fun _ => rfl) fun cdv A outer s H E a hr =>
  (ds_cons (ds_par 2 3 gok0 rfl sc_Galley_init.nd rfl rfl (by decide) rfl rfl (de_callV (ok_pieces_in T) (L2N.takes_of rfl rfl rfl rfl) (hr.mono (by decide)) (by rfl) T.g_pieces_in T.F_pieces_in.kp T.b_pieces_in (dm_bor (db_var 1 (pv 1) (.inr (.inr (by rfl)))) dm_nil)) (de_callV (ok_figures_in T) (L2N.takes_of rfl rfl rfl rfl) (hr.mono (by decide)) (by rfl) T.g_figures_in T.F_figures_in.kp T.b_figures_in (dm_bor (db_var 1 (pv 1) (.inr (.inr (by rfl)))) dm_nil)) (by rfl))
  (ds_cons (ds_if gok0 (dt_cmp or_gt os_ord (db_of (de_bltn call_len cs_len (by rfl) T.n_len (by decide +kernel) (dm_bor (db_var 2 (pv 2) (.inl (by rfl))) dm_nil))) (db_of (de_c (v := .int 40) (pe_glob (by rfl) T.c_MOST_PIECES ⟨_, rfl⟩) fun _ => .int _)) (nomark _))
  (ds_one (ds_raise1 gok0 T.cm_TooLarge rfl (L2N.takes_of rfl rfl rfl rfl) T.o_TooLarge T.i_TooLarge T.ti_TooLarge T.no_TooLarge_many (ox_TooLarge T) (hr.mono (by decide)) T.b_TooLarge (by rfl) T.g_TooLarge (da_cons (de_bltn call_len cs_len (by rfl) T.n_len (by decide +kernel) (dm_bor (db_var 2 (pv 2) (.inl (by rfl))) dm_nil)) da_nil)))
  ds_nil)
  (ds_cons (ds_if gok0 (dt_cmp or_gt os_ord (db_of (de_bltn call_len cs_len (by rfl) T.n_len (by decide +kernel) (dm_bor (db_var 3 (pv 3) (.inl (by rfl))) dm_nil))) (db_of (de_c (v := .int 4) (pe_glob (by rfl) T.c_MOST_FIGURES ⟨_, rfl⟩) fun _ => .int _)) (nomark _))
  (ds_one (ds_raise1 gok0 T.cm_TooLarge rfl (L2N.takes_of rfl rfl rfl rfl) T.o_TooLarge T.i_TooLarge T.ti_TooLarge T.no_TooLarge_many (ox_TooLarge T) (hr.mono (by decide)) T.b_TooLarge (by rfl) T.g_TooLarge (da_cons (de_bltn call_len cs_len (by rfl) T.n_len (by decide +kernel) (dm_bor (db_var 3 (pv 3) (.inl (by rfl))) dm_nil)) da_nil)))
  ds_nil)
  (ds_cons (ds_fst 0 gok0 T.cm_Galley T.cl_Galley T.na_Galley_blocks trivial (pv 0) (de_pub (de_type call_list_of cs_list (by rfl) T.n_list (by decide +kernel) (dm_bor (db_var 1 (pv 1) (.inr (.inr (by rfl)))) dm_nil))))
  (ds_cons (ds_fst 0 gok0 T.cm_Galley T.cl_Galley T.na_Galley_spans trivial (pv 0) (de_callV (ok_spans_in T) (L2N.takes_of rfl rfl rfl rfl) (hr.mono (by decide)) (by rfl) T.g_spans_in T.F_spans_in.kp T.b_spans_in (dm_bor (db_var 1 (pv 1) (.inr (.inr (by rfl)))) dm_nil)))
  (ds_cons (ds_fst 0 gok0 T.cm_Galley T.cl_Galley T.na_Galley_all_pieces trivial (pv 0) (de_var 2 (pv 2) rfl))
  (ds_one (ds_fst 0 gok0 T.cm_Galley T.cl_Galley T.na_Galley_all_figures trivial (pv 0) (de_var 3 (pv 3) rfl)))))))))
theorem ok_Galley_len (T : Txt K mg) : FnOk P w K mg base (L2N.CX P w) 1 T.f_Galley_len T.fd_Galley_len ["self"] (spD K T.cm [true] false F_Galley_len)   := dok (G' := []) (k := 0) T.F_Galley_len sc_Galley_len rfl (by decide) fun cdv A outer s H E hr =>
  (ds_one (ds_ret gok0 rfl (de_bltn call_len cs_len (by rfl) T.n_len (by decide +kernel) (dm_bor (db_of (de_fld T.cm_Galley T.cl_Galley T.na_Galley_all_pieces (db_var 0 (pv 0) (.inr (.inr (by rfl)))))) dm_nil))))
theorem ok_long_galley (T : Txt K mg) : FnOk P w K mg base (L2N.CX P w) 5 T.f_long_galley T.fd_long_galley ["blocks"] (spD K T.cm [true] true F_long_galley)   := dok (G' := []) (k := 4) T.F_long_galley sc_long_galley rfl (by decide) fun cdv A outer s H E hr =>
  (ds_cons (ds_setO 1 gok0 (show 1 < 2 by decide) sc_long_galley.nd rfl (by first | exact Or.inl rfl | exact Or.inr rfl) (de_make0 T.mk_Galley (ok_Galley_init T) (L2N.takes_of rfl rfl rfl rfl) (hr.mono (by decide)) (by rfl) T.g_Galley T.bd_Galley_init (dvs := [.ref T.e_Galley_init]) (.cons rfl .nil) (fun S _ => ⟨.inl (T.kt_Galley_init S), trivial⟩)))
  (ds_cons (ds_fst 1 gok0 T.cm_Galley T.cl_Galley T.na_Galley_blocks trivial (pv 1) (de_pub (de_type call_list_of cs_list (by rfl) T.n_list (by decide +kernel) (dm_bor (db_var 0 (pv 0) (.inr (.inr (by rfl)))) dm_nil))))
  (ds_cons (ds_fst 1 gok0 T.cm_Galley T.cl_Galley T.na_Galley_spans trivial (pv 1) (de_callV (ok_spans_in T) (L2N.takes_of rfl rfl rfl rfl) (hr.mono (by decide)) (by rfl) T.g_spans_in T.F_spans_in.kp T.b_spans_in (dm_bor (db_var 0 (pv 0) (.inr (.inr (by rfl)))) dm_nil)))
  (ds_cons (ds_fst 1 gok0 T.cm_Galley T.cl_Galley T.na_Galley_all_pieces trivial (pv 1) (de_callV (ok_pieces_in T) (L2N.takes_of rfl rfl rfl rfl) (hr.mono (by decide)) (by rfl) T.g_pieces_in T.F_pieces_in.kp T.b_pieces_in (dm_bor (db_var 0 (pv 0) (.inr (.inr (by rfl)))) dm_nil)))
  (ds_cons (ds_fst 1 gok0 T.cm_Galley T.cl_Galley T.na_Galley_all_figures trivial (pv 1) (de_callV (ok_figures_in T) (L2N.takes_of rfl rfl rfl rfl) (hr.mono (by decide)) (by rfl) T.g_figures_in T.F_figures_in.kp T.b_figures_in (dm_bor (db_var 0 (pv 0) (.inr (.inr (by rfl)))) dm_nil)))
  (ds_one (ds_retI 1 rfl rfl (pv 1))))))))
theorem ok_rows_below (T : Txt K mg) : ∀ {n : Nat}, GFnD P w K mg base T.cm (1 + 2 * n) T.f_rows_below T.fd_rows_below ["many", "most"] (F_rows_below n)
  | 0 => gfnd_bad
  | n + 1 => dokGen (k := 1 + 2 * n + 1) T.F_rows_below sc_rows_below nc_rows_below (by decide) fun cdv outer n0 os pn hpn => by
    have ih := fun T => ok_rows_below T (n := n)
    exact (gss_cons (gs_for nc_rows_below (fun b hb => have hr := hb.rx (k := 1 + 2 * n + 1) rfl
  (is_rng1 T.n_range (by rfl) (da_cons (de_var 0 (pv 0) rfl) da_nil))) (fun b hb => have hr := hb.rx (k := 1 + 2 * n + 1) rfl
  (dg_name 2 sc_rows_below.nd rfl (by first | exact Or.inl rfl | exact Or.inr rfl)))
  (gss_cons (gs_yield (hvo rfl) nc_rows_below hpn rfl (fun b hb => have hr := hb.rx (k := 1 + 2 * n + 1) rfl
  (de_tup (da_cons (de_var 2 (pv 2) rfl) da_nil))))
  (gss_cons (gs_if (fun b hb => have hr := hb.rx (k := 1 + 2 * n + 1) rfl
  (dt_cmp or_gt os_ord (db_var 1 (pv 1) (.inl (by rfl))) (db_of de_int) (nomark _)))
  (gss_cons (gs_forGen (m := 1 + 2 * n + 1) rfl (fun b hb => have hr := hb.rx (k := 1 + 2 * n + 1) rfl
  (dg_callG (k := 1 + 2 * n) (ih T) (hr.mono (by omega)) (by rfl) T.g_rows_below T.F_rows_below.kp T.b_rows_below (dl_cons (dl_cons dl_nil)) (da_cons (de_var 0 (pv 0) rfl) (da_cons (de_op op_sub os_sub (db_var 1 (pv 1) (.inl (by rfl))) (db_of de_int)) da_nil)))) (by omega) (fun b hb => have hr := hb.rx (k := 1 + 2 * n + 1) rfl
  (dg_name 3 sc_rows_below.nd rfl (by first | exact Or.inl rfl | exact Or.inr rfl)))
  (gss_cons (gs_yield (hvo rfl) nc_rows_below hpn rfl (fun b hb => have hr := hb.rx (k := 1 + 2 * n + 1) rfl
  (de_op or_add os_add (db_of (de_tup (da_cons (de_var 2 (pv 2) rfl) da_nil))) (db_var 3 (pv 3) (.inl (by rfl))))))
  gl_nil))
  gl_nil)
  gl_nil)
  gl_nil)))
  gl_nil)
theorem ok_block_of_case (T : Txt K mg) : FnOk P w K mg base (L2N.CX P w) 1 T.f_block_of_case T.fd_block_of_case ["case", "shapes"] (spD K T.cm [false, false] false F_block_of_case)   := dok (G' := []) (k := 0) T.F_block_of_case sc_block_of_case rfl (by decide) fun cdv A outer s H E hr =>
  (ds_cons (ds_par3 2 3 4 gok0 rfl sc_block_of_case.nd rfl rfl rfl (by decide) (by decide) (by decide) rfl rfl rfl (de_ix (db_var 0 (pv 0) (.inl (by rfl))) (db_of de_int) (fun _ _ => rfl)) (de_ix (db_var 0 (pv 0) (.inl (by rfl))) (db_of de_int) (fun _ _ => rfl)) (de_ix (db_var 0 (pv 0) (.inl (by rfl))) (db_of de_int) (fun _ _ => rfl)) (by rfl))
  (ds_cons (ds_setO 5 gok0 (show 5 < 10 by decide) sc_block_of_case.nd rfl (by first | exact Or.inl rfl | exact Or.inr rfl) (de_lst da_nil))
  (ds_cons (ds_for gok0 (passes_of rfl) rfl (di_rng1 T.n_range (by rfl) (da_cons (de_bltn call_len cs_len (by rfl) T.n_len (by decide +kernel) (dm_bor (db_var 1 (pv 1) (.inl (by rfl))) dm_nil)) da_nil)) (dg_name 6 sc_block_of_case.nd rfl (by first | exact Or.inl rfl | exact Or.inr rfl))
  (ds_cons (ds_set 7 gok0 sc_block_of_case.nd rfl (by first | exact Or.inl rfl | exact Or.inr rfl) (de_ix (db_var 4 (pv 4) (.inl (by rfl))) (db_of (de_ix (db_var 1 (pv 1) (.inl (by rfl))) (db_var 6 (pv 6) (.inl (by rfl))) (fun _ _ => rfl))) (fun _ _ => rfl)))
  (ds_one (ds_for gok0 (passes_of rfl) rfl (di_rng1 T.n_range (by rfl) (da_cons (de_bltn call_len cs_len (by rfl) T.n_len (by decide +kernel) (dm_bor (db_var 7 (pv 7) (.inl (by rfl))) dm_nil)) da_nil)) (dg_name 8 sc_block_of_case.nd rfl (by first | exact Or.inl rfl | exact Or.inr rfl))
  (ds_cons (ds_if gok0 (dt_cmp or_lt os_ord (db_var 8 (pv 8) (.inl (by rfl))) (db_of (de_op op_sub os_sub (db_of (de_bltn call_len cs_len (by rfl) T.n_len (by decide +kernel) (dm_bor (db_var 7 (pv 7) (.inl (by rfl))) dm_nil))) (db_of de_int))) (nomark _))
  (ds_one (ds_set 9 gok0 sc_block_of_case.nd rfl (by first | exact Or.inl rfl | exact Or.inr rfl) (de_tup (da_cons (de_strL (by decide +kernel)) (da_cons (de_var 3 (pv 3) rfl) da_nil)))))
  (ds_one (ds_if gok0 (dt_cmp or_lt os_ord (db_var 6 (pv 6) (.inl (by rfl))) (db_of (de_op op_sub os_sub (db_of (de_bltn call_len cs_len (by rfl) T.n_len (by decide +kernel) (dm_bor (db_var 1 (pv 1) (.inl (by rfl))) dm_nil))) (db_of de_int))) (nomark _))
  (ds_one (ds_set 9 gok0 sc_block_of_case.nd rfl (by first | exact Or.inl rfl | exact Or.inr rfl) (de_tup (da_cons (de_strL (by decide +kernel)) (da_cons (de_var 2 (pv 2) rfl) da_nil)))))
  (ds_one (ds_set 9 gok0 sc_block_of_case.nd rfl (by first | exact Or.inl rfl | exact Or.inr rfl) (de_tup (da_cons (de_strL (by decide +kernel)) da_nil)))))))
  (ds_one (ds_app 5 gok0 rfl (pv 5) (de_tup (da_cons (de_ix (db_var 7 (pv 7) (.inl (by rfl))) (db_var 8 (pv 8) (.inl (by rfl))) (fun _ _ => rfl)) (da_cons (de_var 9 (pv 9) rfl) (da_cons (de_tup da_nil) (da_cons (de_tup da_nil) da_nil))))))))))))
  (ds_one (ds_ret gok0 rfl (de_tup (da_cons (de_ix (db_var 0 (pv 0) (.inl (by rfl))) (db_of de_int) (fun _ _ => rfl)) (da_cons (de_ix (db_var 0 (pv 0) (.inl (by rfl))) (db_of de_int) (fun _ _ => rfl)) (da_cons (de_ix (db_var 0 (pv 0) (.inl (by rfl))) (db_of de_int) (fun _ _ => rfl)) (da_cons (de_ix (db_var 0 (pv 0) (.inl (by rfl))) (db_of de_int) (fun _ _ => rfl)) (da_cons (de_type call_tuple_of cs_tuple (by rfl) T.n_tuple (by decide +kernel) (dm_bor (db_var 5 (pv 5) (.inr (.inl (by trivial)))) dm_nil)) da_nil)))))))))))
theorem ok_Family_init (T : Txt K mg) : FnOk P w K mg base (L2N.CX P w) 1 T.f_Family_init T.fd_Family_init ["self", "cases", "firsts", "follows"] (spI K T.cm T.a_Family [false, false, false] F_Family_init)   := dokI (k := 0) T.F_Family_init sc_Family_init T.cm_Family rfl (by decide) (fun _ => rfl) fun cdv A outer s H E a hr =>
  (ds_cons (ds_fst 0 gok0 T.cm_Family T.cl_Family T.na_Family_cases trivial (pv 0) (de_type call_tuple_of cs_tuple (by rfl) T.n_tuple (by decide +kernel) (dm_bor (db_var 1 (pv 1) (.inl (by rfl))) dm_nil)))
  (ds_cons (ds_fst 0 gok0 T.cm_Family T.cl_Family T.na_Family_firsts trivial (pv 0) (de_type call_tuple_of cs_tuple (by rfl) T.n_tuple (by decide +kernel) (dm_bor (db_var 2 (pv 2) (.inl (by rfl))) dm_nil)))
  (ds_one (ds_fst 0 gok0 T.cm_Family T.cl_Family T.na_Family_follows trivial (pv 0) (de_type call_tuple_of cs_tuple (by rfl) T.n_tuple (by decide +kernel) (dm_bor (db_own (de_lc (own := [("row", 4)]) rfl sc_Family_init.nd (di_tup (de_var 3 (pv 3) rfl)) (blkOk_by (own := [("row", 4)]) (N := ["self", "cases", "firsts", "follows", "row"]) (sc := defScope s_Family_init) (by decide +kernel)) (fun _ _ _ _ _ => (dg_name 4 sc_Family_init.nd rfl (by first | exact Or.inl rfl | exact Or.inr rfl))) (fun _ _ _ _ _ => dt_nil) (fun _ _ _ _ _ => (de_type call_tuple_of cs_tuple (by rfl) T.n_tuple (by decide +kernel) (dm_bor (db_var 4 (pv 4) (.inl (by rfl))) dm_nil))))) dm_nil))))))
theorem ok_Family_galley_of (T : Txt K mg) : FnOk P w K mg base (L2N.CX P w) 6 T.f_Family_galley_of T.fd_Family_galley_of ["self", "telling"] (spD K T.cm [true, false] false F_Family_galley_of)   := dok (G' := []) (k := 5) T.F_Family_galley_of sc_Family_galley_of rfl (by decide) fun cdv A outer s H E hr =>
  (ds_one (ds_ret gok0 rfl (de_pub (de_callO (ok_long_galley T) (L2N.takes_of rfl rfl rfl rfl) (hr.mono (by decide)) (by rfl) T.g_long_galley T.F_long_galley.kp T.b_long_galley (dm_bor (db_own (de_lc (own := [("case", 2), ("shapes", 3)]) rfl sc_Family_galley_of.nd (di_tup (de_var 1 (pv 1) rfl)) (blkOk_by (own := [("case", 2), ("shapes", 3)]) (N := ["self", "telling", "case", "shapes"]) (sc := defScope s_Family_galley_of) (by decide +kernel)) (fun _ _ _ _ _ => (dg_tup rfl (dg_cons (dg_name 2 sc_Family_galley_of.nd rfl (by first | exact Or.inl rfl | exact Or.inr rfl)) (dg_cons (dg_name 3 sc_Family_galley_of.nd rfl (by first | exact Or.inl rfl | exact Or.inr rfl)) dg_nil)))) (fun _ _ _ _ _ => dt_nil) (fun _ _ _ _ _ => (de_callV (ok_block_of_case T) L2N.takes0 (hr.mono (by decide)) (by rfl) T.g_block_of_case T.F_block_of_case.kp T.b_block_of_case (dm_val (de_ix (db_of (de_fld T.cm_Family T.cl_Family T.na_Family_cases (db_var 0 (pv 0) (.inr (.inr (by rfl)))))) (db_var 2 (pv 2) (.inl (by rfl))) (fun _ _ => rfl)) (dm_val (de_var 3 (pv 3) rfl) dm_nil)))))) dm_nil)))))
theorem ok_Family_tellings_from (T : Txt K mg) : ∀ {n : Nat}, GFnD P w K mg base T.cm (19 + 2 * n) T.f_Family_tellings_from T.fd_Family_tellings_from ["self", "firsts", "length"] (F_Family_tellings_from n)
  | 0 => gfnd_bad
  | n + 1 => dokGen (k := 19 + 2 * n + 1) T.F_Family_tellings_from sc_Family_tellings_from nc_Family_tellings_from (by decide) fun cdv outer n0 os pn hpn => by
    have ih := fun T => ok_Family_tellings_from T (n := n)
    exact (gss_cons (gs_for nc_Family_tellings_from (fun b hb => have hr := hb.rx (k := 19 + 2 * n + 1) rfl
  (is_list (de_pub (de_sortSet rfl (by rfl) T.n_sorted (by rfl) T.n_set (de_var 1 (pv 1) rfl))))) (fun b hb => have hr := hb.rx (k := 19 + 2 * n + 1) rfl
  (dg_name 3 sc_Family_tellings_from.nd rfl (by first | exact Or.inl rfl | exact Or.inr rfl)))
  (gss_cons (gs_forGen (m := 19 + 2 * n + 1) rfl (fun b hb => have hr := hb.rx (k := 19 + 2 * n + 1) rfl
  (dg_callG (k := 17) (ok_rows_below T (n := 8)) (hr.mono (by omega)) (by rfl) T.g_rows_below T.F_rows_below.kp T.b_rows_below (dl_cons (dl_cons dl_nil)) (da_cons (de_bltn call_len cs_len (by rfl) T.n_len (by decide +kernel) (dm_bor (db_of (de_ix (db_of (de_ix (db_of (de_fld T.cm_Family T.cl_Family T.na_Family_cases (db_var 0 (pv 0) (.inl (by rfl))))) (db_var 3 (pv 3) (.inl (by rfl))) (fun _ _ => rfl))) (db_of de_int) (fun _ _ => rfl))) dm_nil)) (da_cons (de_var 2 (pv 2) rfl) da_nil)))) (by omega) (fun b hb => have hr := hb.rx (k := 19 + 2 * n + 1) rfl
  (dg_name 4 sc_Family_tellings_from.nd rfl (by first | exact Or.inl rfl | exact Or.inr rfl)))
  (gss_cons (gs_if (fun b hb => have hr := hb.rx (k := 19 + 2 * n + 1) rfl
  (dt_cmp (or_eq hr.units) os_eq (db_of (de_bltn call_len cs_len (by rfl) T.n_len (by decide +kernel) (dm_bor (db_var 4 (pv 4) (.inl (by rfl))) dm_nil))) (db_var 2 (pv 2) (.inl (by rfl))) (nomark _)))
  (gss_cons (gs_yield (hvo rfl) nc_Family_tellings_from hpn rfl (fun b hb => have hr := hb.rx (k := 19 + 2 * n + 1) rfl
  (de_tup (da_cons (de_tup (da_cons (de_var 3 (pv 3) rfl) (da_cons (de_var 4 (pv 4) rfl) da_nil))) da_nil))))
  gl_nil)
  (gss_cons (gs_forGen (m := 19 + 2 * n + 1) rfl (fun b hb => have hr := hb.rx (k := 19 + 2 * n + 1) rfl
  (dg_methG (k := 19 + 2 * n) T.cm_Family T.cl_Family T.m_Family_tellings_from (ih T) (hr.mono (by omega)) T.b_Family_tellings_from (fun r ds h => (congrArg (· + 1) ((dl_cons (dl_cons dl_nil)) r ds h)).trans rfl) (de_var 0 (pv 0) rfl) (da_cons (de_ix (db_of (de_fld T.cm_Family T.cl_Family T.na_Family_follows (db_var 0 (pv 0) (.inl (by rfl))))) (db_var 3 (pv 3) (.inl (by rfl))) (fun _ _ => rfl)) (da_cons (de_op op_sub os_sub (db_var 2 (pv 2) (.inl (by rfl))) (db_of (de_bltn call_len cs_len (by rfl) T.n_len (by decide +kernel) (dm_bor (db_var 4 (pv 4) (.inl (by rfl))) dm_nil)))) da_nil)))) (by omega) (fun b hb => have hr := hb.rx (k := 19 + 2 * n + 1) rfl
  (dg_name 5 sc_Family_tellings_from.nd rfl (by first | exact Or.inl rfl | exact Or.inr rfl)))
  (gss_cons (gs_yield (hvo rfl) nc_Family_tellings_from hpn rfl (fun b hb => have hr := hb.rx (k := 19 + 2 * n + 1) rfl
  (de_op or_add os_add (db_of (de_tup (da_cons (de_tup (da_cons (de_var 3 (pv 3) rfl) (da_cons (de_var 4 (pv 4) rfl) da_nil))) da_nil))) (db_var 5 (pv 5) (.inl (by rfl))))))
  gl_nil))
  gl_nil))
  gl_nil))
  gl_nil))
  gl_nil)
theorem ok_Family_every_telling (T : Txt K mg) : GFnD P w K mg base T.cm 37 T.f_Family_every_telling T.fd_Family_every_telling ["self", "length"] F_Family_every_telling   := dokGen (k := 36) T.F_Family_every_telling sc_Family_every_telling nc_Family_every_telling (by decide) fun cdv outer n0 os pn hpn =>
  (gss_cons (gs_forGen (m := 36) rfl (fun b hb => have hr := hb.rx (k := 36) rfl
  (dg_methG (k := 35) T.cm_Family T.cl_Family T.m_Family_tellings_from (ok_Family_tellings_from T (n := 8)) (hr.mono (by decide)) T.b_Family_tellings_from (fun r ds h => (congrArg (· + 1) ((dl_cons (dl_cons dl_nil)) r ds h)).trans rfl) (de_var 0 (pv 0) rfl) (da_cons (de_fld T.cm_Family T.cl_Family T.na_Family_firsts (db_var 0 (pv 0) (.inl (by rfl)))) (da_cons (de_var 1 (pv 1) rfl) da_nil)))) (by decide) (fun b hb => have hr := hb.rx (k := 36) rfl
  (dg_name 2 sc_Family_every_telling.nd rfl (by first | exact Or.inl rfl | exact Or.inr rfl)))
  (gss_cons (gs_yield (hvo rfl) nc_Family_every_telling hpn rfl (fun b hb => have hr := hb.rx (k := 36) rfl
  (de_var 2 (pv 2) rfl)))
  gl_nil))
  gl_nil)
theorem ok_l_cell (T : Txt K mg) : FnOk P w K mg base (L2N.CX P w) 1 T.f_l_cell T.fd_l_cell ["_law_script", "_law_k"] (spD K T.cm [false, false] false F_l_cell)   := dok (G' := []) (k := 0) T.F_l_cell sc_l_cell rfl (by decide) fun cdv A outer s H E hr =>
  (ds_cons (ds_if gok0 (dt_cmp or_lt os_ord (db_var 1 (pv 1) (.inl (by rfl))) (db_of (de_bltn call_len cs_len (by rfl) T.n_len (by decide +kernel) (dm_bor (db_var 0 (pv 0) (.inl (by rfl))) dm_nil))) (nomark _))
  (ds_one (ds_ret gok0 rfl (de_type cr_int cs_int (by rfl) T.n_int (by decide +kernel) (dm_bor (db_of (de_ix (db_var 0 (pv 0) (.inl (by rfl))) (db_var 1 (pv 1) (.inl (by rfl))) (fun _ _ => rfl))) dm_nil))))
  ds_nil)
  (ds_one (ds_ret gok0 rfl de_int)))
theorem ok_l_row (T : Txt K mg) : FnOk P w K mg base (L2N.CX P w) 1 T.f_l_row T.fd_l_row ["_law_cell_here", "_law_limits"] (spD K T.cm [false, false] false F_l_row)   := dok (G' := []) (k := 0) T.F_l_row sc_l_row rfl (by decide) fun cdv A outer s H E hr =>
  (ds_cons (ds_setO 2 gok0 (show 2 < 7 by decide) sc_l_row.nd rfl (by first | exact Or.inl rfl | exact Or.inr rfl) (de_lst da_nil))
  (ds_cons (ds_if gok0 (dt_cmp or_ge os_ord (db_var 0 (pv 0) (.inl (by rfl))) (db_of de_int) (nomark _))
  (ds_cons (ds_set 3 gok0 sc_l_row.nd rfl (by first | exact Or.inl rfl | exact Or.inr rfl) (de_op op_sub os_sub (db_var 0 (pv 0) (.inl (by rfl))) (db_of de_int)))
  (ds_cons (ds_for gok0 (passes_of rfl) rfl (di_list (de_var 1 (pv 1) rfl)) (dg_name 4 sc_l_row.nd rfl (by first | exact Or.inl rfl | exact Or.inr rfl))
  (ds_cons (ds_app 2 gok0 rfl (pv 2) (de_op op_mod os_mod (db_of (de_type cr_int cs_int (by rfl) T.n_int (by decide +kernel) (dm_bor (db_var 3 (pv 3) (.inl (by rfl))) dm_nil))) (db_var 4 (pv 4) (.inl (by rfl)))))
  (ds_one (ds_set 3 gok0 sc_l_row.nd rfl (by first | exact Or.inl rfl | exact Or.inr rfl) (de_op or_fdiv os_fdiv (db_var 3 (pv 3) (.inl (by rfl))) (db_var 4 (pv 4) (.inl (by rfl))))))))
  (ds_pub 2 (ds_one (ds_ret gok0 rfl (de_var 2 (pv 2) rfl))) (.inl rfl))))
  ds_nil)
  (ds_cons (ds_for gok0 (passes_of rfl) rfl (di_rng1 T.n_range (by rfl) (da_cons (de_bltn call_len cs_len (by rfl) T.n_len (by decide +kernel) (dm_bor (db_var 1 (pv 1) (.inl (by rfl))) dm_nil)) da_nil)) (dg_name 5 sc_l_row.nd rfl (by first | exact Or.inl rfl | exact Or.inr rfl))
  (ds_cons (ds_set 6 gok0 sc_l_row.nd rfl (by first | exact Or.inl rfl | exact Or.inr rfl) (de_op op_mod os_mod (db_of (de_type cr_int cs_int (by rfl) T.n_int (by decide +kernel) (dm_bor (db_of (de_op or_add os_add (db_of (de_op or_add os_add (db_of (de_op or_mulX os_mulX (db_var 0 (pv 0) (.inl (by rfl))) (db_of de_int))) (db_of (de_op or_mulX os_mulX (db_var 5 (pv 5) (.inl (by rfl))) (db_of de_int))))) (db_of de_int))) dm_nil))) (db_of de_int)))
  (ds_cons (ds_set 6 gok0 sc_l_row.nd rfl (by first | exact Or.inl rfl | exact Or.inr rfl) (de_op op_mod os_mod (db_of (de_type cr_int cs_int (by rfl) T.n_int (by decide +kernel) (dm_bor (db_of (de_op or_add os_add (db_of (de_op or_add os_add (db_of (de_op or_mulX os_mulX (db_var 6 (pv 6) (.inl (by rfl))) (db_of (de_op or_add os_add (db_of de_int) (db_of (de_op or_mulX os_mulX (db_of de_int) (db_var 5 (pv 5) (.inl (by rfl))))))))) (db_of (de_op or_mulX os_mulX (db_of (de_op or_mulX os_mulX (db_var 5 (pv 5) (.inl (by rfl))) (db_var 5 (pv 5) (.inl (by rfl))))) (db_of de_int))))) (db_of de_int))) dm_nil))) (db_of de_int)))
  (ds_one (ds_app 2 gok0 rfl (pv 2) (de_op op_mod os_mod (db_of (de_type cr_int cs_int (by rfl) T.n_int (by decide +kernel) (dm_bor (db_of (de_op or_fdiv os_fdiv (db_var 6 (pv 6) (.inl (by rfl))) (db_of de_int))) dm_nil))) (db_of (de_ix (db_var 1 (pv 1) (.inl (by rfl))) (db_var 5 (pv 5) (.inl (by rfl))) (fun _ _ => rfl)))))))))
  (ds_pub 2 (ds_one (ds_ret gok0 rfl (de_var 2 (pv 2) rfl))) (.inl rfl)))))
theorem ok_l_number (T : Txt K mg) : FnOk P w K mg base (L2N.CX P w) 1 T.f_l_number T.fd_l_number ["_law_value"] (spD K T.cm [false] false F_l_number)   := dok (G' := []) (k := 0) T.F_l_number sc_l_number rfl (by decide) fun cdv A outer s H E hr =>
  (ds_one (ds_ret gok0 rfl (de_and (de_isi "int" T.n_isinstance (by rfl) (by rfl) T.n_int (by decide +kernel) (db_var 0 (pv 0) (.inl (by rfl)))) (de_one (de_not (de_isi "bool" T.n_isinstance (by rfl) (by rfl) T.n_bool (by decide +kernel) (db_var 0 (pv 0) (.inl (by rfl)))))))))
theorem ok_l_same (T : Txt K mg) : ∀ {n : Nat}, FnOk P w K mg base (L2N.CX P w) (1 + n) T.f_l_same T.fd_l_same ["_law_one", "_law_two"] (spD K T.cm [true, true] false (F_l_same n))
  | 0 => fnok_bad
  | n + 1 => dok (G' := []) (k := 1 + n) T.F_l_same sc_l_same rfl (by decide) fun cdv A outer s H E hr => by
    have ih := fun T => ok_l_same T (n := n)
    exact (ds_cons (ds_if gok0 (dt_cmp op_isN os_is (db_var 1 (pv 1) (.inr (.inr (by rfl)))) (db_of de_non) (nomark _))
  (ds_one (ds_ret gok0 rfl (de_cmp op_isN os_is (db_var 0 (pv 0) (.inr (.inr (by rfl)))) (db_of de_non) (nomark _))))
  ds_nil)
  (ds_cons (ds_if gok0 (dt_val (de_isi "bool" T.n_isinstance (by rfl) (by rfl) T.n_bool (by decide +kernel) (db_var 1 (pv 1) (.inr (.inr (by rfl))))))
  (ds_one (ds_ret gok0 rfl (de_and (de_isi "bool" T.n_isinstance (by rfl) (by rfl) T.n_bool (by decide +kernel) (db_var 0 (pv 0) (.inr (.inr (by rfl))))) (de_one (de_cmp (or_eq hr.units) os_eq (db_var 0 (pv 0) (.inr (.inr (by rfl)))) (db_var 1 (pv 1) (.inr (.inr (by rfl)))) (nomark _))))))
  ds_nil)
  (ds_cons (ds_if gok0 (dt_val (de_isi "int" T.n_isinstance (by rfl) (by rfl) T.n_int (by decide +kernel) (db_var 1 (pv 1) (.inr (.inr (by rfl))))))
  (ds_one (ds_ret gok0 rfl (de_and (de_isi "int" T.n_isinstance (by rfl) (by rfl) T.n_int (by decide +kernel) (db_var 0 (pv 0) (.inr (.inr (by rfl))))) (de_and (de_not (de_isi "bool" T.n_isinstance (by rfl) (by rfl) T.n_bool (by decide +kernel) (db_var 0 (pv 0) (.inr (.inr (by rfl)))))) (de_one (de_cmp (or_eq hr.units) os_eq (db_var 0 (pv 0) (.inr (.inr (by rfl)))) (db_var 1 (pv 1) (.inr (.inr (by rfl)))) (nomark _)))))))
  ds_nil)
  (ds_cons (ds_if gok0 (dt_val (de_isi "str" T.n_isinstance (by rfl) (by rfl) T.n_str (by decide +kernel) (db_var 1 (pv 1) (.inr (.inr (by rfl))))))
  (ds_one (ds_ret gok0 rfl (de_and (de_isi "str" T.n_isinstance (by rfl) (by rfl) T.n_str (by decide +kernel) (db_var 0 (pv 0) (.inr (.inr (by rfl))))) (de_one (de_cmp (or_eq hr.units) os_eq (db_var 0 (pv 0) (.inr (.inr (by rfl)))) (db_var 1 (pv 1) (.inr (.inr (by rfl)))) (nomark _))))))
  ds_nil)
  (ds_cons (ds_if gok0 (PW.pt (dw_and (dt_val (de_isi "tuple" T.n_isinstance (by rfl) (by rfl) T.n_tuple (by decide +kernel) (db_var 1 (pv 1) (.inr (.inr (by rfl)))))) (dw_and1 (dt_not (dt_val (de_isi "tuple" T.n_isinstance (by rfl) (by rfl) T.n_tuple (by decide +kernel) (db_var 0 (pv 0) (.inr (.inr (by rfl))))))))))
  (ds_one (ds_ret gok0 rfl de_bl))
  ds_nil)
  (ds_cons (ds_if gok0 (PW.pt (dw_and (dt_val (de_isi "list" T.n_isinstance (by rfl) (by rfl) T.n_list (by decide +kernel) (db_var 1 (pv 1) (.inr (.inr (by rfl)))))) (dw_and1 (dt_not (dt_val (de_isi "list" T.n_isinstance (by rfl) (by rfl) T.n_list (by decide +kernel) (db_var 0 (pv 0) (.inr (.inr (by rfl))))))))))
  (ds_one (ds_ret gok0 rfl de_bl))
  ds_nil)
  (ds_cons (ds_if gok0 (PW.pt (dw_or (dt_val (de_isi "tuple" T.n_isinstance (by rfl) (by rfl) T.n_tuple (by decide +kernel) (db_var 1 (pv 1) (.inr (.inr (by rfl)))))) (dw_or1 (dt_val (de_isi "list" T.n_isinstance (by rfl) (by rfl) T.n_list (by decide +kernel) (db_var 1 (pv 1) (.inr (.inr (by rfl)))))))))
  (ds_cons (ds_if gok0 (dt_cmp (or_ne hr.units) os_ne (db_of (de_bltn call_len cs_len (by rfl) T.n_len (by decide +kernel) (dm_bor (db_var 0 (pv 0) (.inr (.inr (by rfl)))) dm_nil))) (db_of (de_bltn call_len cs_len (by rfl) T.n_len (by decide +kernel) (dm_bor (db_var 1 (pv 1) (.inr (.inr (by rfl)))) dm_nil))) (nomark _))
  (ds_one (ds_ret gok0 rfl de_bl))
  ds_nil)
  (ds_cons (ds_for gok0 (passes_of rfl) rfl (di_rng1 T.n_range (by rfl) (da_cons (de_bltn call_len cs_len (by rfl) T.n_len (by decide +kernel) (dm_bor (db_var 1 (pv 1) (.inr (.inr (by rfl)))) dm_nil)) da_nil)) (dg_name 2 sc_l_same.nd rfl (by first | exact Or.inl rfl | exact Or.inr rfl))
  (ds_one (ds_if gok0 (dt_not (dt_val (de_callV (ih T) (L2N.takes_of rfl rfl rfl rfl) hr (by rfl) T.g_l_same T.F_l_same.kp T.b_l_same (dm_bor (db_of (de_ix (db_var 0 (pv 0) (.inr (.inr (by rfl)))) (db_var 2 (pv 2) (.inl (by rfl))) (fun _ _ => rfl))) (dm_bor (db_of (de_ix (db_var 1 (pv 1) (.inr (.inr (by rfl)))) (db_var 2 (pv 2) (.inl (by rfl))) (fun _ _ => rfl))) dm_nil)))))
  (ds_one (ds_ret gok0 rfl de_bl))
  ds_nil)))
  (ds_one (ds_ret gok0 rfl de_bl))))
  ds_nil)
  (ds_one (ds_ret gok0 rfl de_bl)))))))))
theorem ok_l_case (T : Txt K mg) : FnOk P w K mg base (L2N.CX P w) 2 T.f_l_case T.fd_l_case ["_law_cell_here"] (spD K T.cm [false] false F_l_case)   := dok (G' := []) (k := 1) T.F_l_case sc_l_case rfl (by decide) fun cdv A outer s H E hr =>
  (ds_cons (ds_set 1 gok0 sc_l_case.nd rfl (by first | exact Or.inl rfl | exact Or.inr rfl) (de_pub (de_lst (da_cons de_int (da_cons de_int (da_cons de_int (da_cons de_int (da_cons de_int (da_cons de_int (da_cons de_int da_nil))))))))))
  (ds_cons (ds_for gok0 (passes_of rfl) rfl (di_rng1 T.n_range (by rfl) (da_cons de_int da_nil)) (dg_name 2 sc_l_case.nd rfl (by first | exact Or.inl rfl | exact Or.inr rfl))
  (ds_one (ds_set 1 gok0 sc_l_case.nd rfl (by first | exact Or.inl rfl | exact Or.inr rfl) (de_op or_add os_add (db_var 1 (pv 1) (.inl (by rfl))) (db_own (de_lst (da_cons de_int (da_cons de_int (da_cons de_int (da_cons de_int da_nil))))))))))
  (ds_cons (ds_set 3 gok0 sc_l_case.nd rfl (by first | exact Or.inl rfl | exact Or.inr rfl) (de_callV (ok_l_row T) (L2N.takes_of rfl rfl rfl rfl) (hr.mono (by decide)) (by rfl) T.g_l_row T.F_l_row.kp T.b_l_row (dm_val (de_var 0 (pv 0) rfl) (dm_val (de_var 1 (pv 1) rfl) dm_nil))))
  (ds_cons (ds_setO 4 gok0 (show 4 < 7 by decide) sc_l_case.nd rfl (by first | exact Or.inl rfl | exact Or.inr rfl) (de_lst da_nil))
  (ds_cons (ds_for gok0 (passes_of rfl) rfl (di_rng1 T.n_range (by rfl) (da_cons (de_op or_add os_add (db_of (de_ix (db_var 3 (pv 3) (.inl (by rfl))) (db_of de_int) (fun _ _ => rfl))) (db_of de_int)) da_nil)) (dg_name 2 sc_l_case.nd rfl (by first | exact Or.inl rfl | exact Or.inr rfl))
  (ds_cons (ds_set 5 gok0 sc_l_case.nd rfl (by first | exact Or.inl rfl | exact Or.inr rfl) (de_sl (db_var 3 (pv 3) (.inl (by rfl))) (dp_some (de_op or_add os_add (db_of (de_op or_mulX os_mulX (db_of de_int) (db_var 2 (pv 2) (.inl (by rfl))))) (db_of de_int))) (dp_some (de_op or_add os_add (db_of (de_op or_mulX os_mulX (db_of de_int) (db_var 2 (pv 2) (.inl (by rfl))))) (db_of de_int)))))
  (ds_one (ds_app 4 gok0 rfl (pv 4) (de_type call_tuple_of cs_tuple (by rfl) T.n_tuple (by decide +kernel) (dm_bor (db_own (de_lc (own := [("_law_width", 6)]) rfl sc_l_case.nd (di_list (de_sl (db_var 5 (pv 5) (.inl (by rfl))) (dp_some de_int) (dp_some (de_op or_add os_add (db_of (de_ix (db_var 5 (pv 5) (.inl (by rfl))) (db_of de_int) (fun _ _ => rfl))) (db_of de_int))))) (blkOk_by (own := [("_law_width", 6)]) (N := ["_law_cell_here", "_law_limits", "_law_k", "_law_row_here", "_law_shapes", "_law_part", "_law_width"]) (sc := defScope s_l_case) (by decide +kernel)) (fun _ _ _ _ _ => (dg_name 6 sc_l_case.nd rfl (by first | exact Or.inl rfl | exact Or.inr rfl))) (fun _ _ _ _ _ => dt_nil) (fun _ _ _ _ _ => (de_op or_add os_add (db_var 6 (pv 6) (.inl (by rfl))) (db_of de_int))))) dm_nil))))))
  (ds_one (ds_ret gok0 rfl (de_tup (da_cons (de_op or_add os_add (db_of (de_ix (db_var 3 (pv 3) (.inl (by rfl))) (db_of de_int) (fun _ _ => rfl))) (db_of de_int)) (da_cons (de_ix (db_var 3 (pv 3) (.inl (by rfl))) (db_of de_int) (fun _ _ => rfl)) (da_cons (de_ix (db_var 3 (pv 3) (.inl (by rfl))) (db_of de_int) (fun _ _ => rfl)) (da_cons (de_cmp (or_eq hr.units) os_eq (db_of (de_ix (db_var 3 (pv 3) (.inl (by rfl))) (db_of de_int) (fun _ _ => rfl))) (db_of de_int) (nomark _)) (da_cons (de_ix (db_var 3 (pv 3) (.inl (by rfl))) (db_of de_int) (fun _ _ => rfl)) (da_cons (de_ix (db_var 3 (pv 3) (.inl (by rfl))) (db_of de_int) (fun _ _ => rfl)) (da_cons (de_type call_tuple_of cs_tuple (by rfl) T.n_tuple (by decide +kernel) (dm_bor (db_var 4 (pv 4) (.inr (.inl (by trivial)))) dm_nil)) da_nil)))))))))))))))
theorem ok_l_some (T : Txt K mg) : FnOk P w K mg base (L2N.CX P w) 1 T.f_l_some T.fd_l_some ["_law_bits", "_law_many", "_law_turned"] (spD K T.cm [false, false, false] false F_l_some)   := dok (G' := []) (k := 0) T.F_l_some sc_l_some rfl (by decide) fun cdv A outer s H E hr =>
  (ds_cons (ds_setO 3 gok0 (show 3 < 5 by decide) sc_l_some.nd rfl (by first | exact Or.inl rfl | exact Or.inr rfl) (de_lst da_nil))
  (ds_cons (ds_for gok0 (passes_of rfl) rfl (di_rng1 T.n_range (by rfl) (da_cons (de_var 1 (pv 1) rfl) da_nil)) (dg_name 4 sc_l_some.nd rfl (by first | exact Or.inl rfl | exact Or.inr rfl))
  (ds_one (ds_if gok0 (dt_cmp (or_eq hr.units) os_eq (db_of (de_op op_mod os_mod (db_of (de_op or_fdiv os_fdiv (db_of (de_type cr_int cs_int (by rfl) T.n_int (by decide +kernel) (dm_bor (db_var 0 (pv 0) (.inl (by rfl))) dm_nil))) (db_of (de_ix (db_own (de_lst (da_cons de_int (da_cons de_int (da_cons de_int da_nil))))) (db_var 4 (pv 4) (.inl (by rfl))) (fun _ _ => rfl))))) (db_of de_int))) (db_of de_int) (nomark _))
  (ds_one (ds_app 3 gok0 rfl (pv 3) (de_var 4 (pv 4) rfl)))
  ds_nil)))
  (ds_cons (ds_if gok0 (dt_cmp (or_eq hr.units) os_eq (db_var 2 (pv 2) (.inl (by rfl))) (db_of de_int) (nomark _))
  (ds_one (ds_setO 3 gok0 (show 3 < 5 by decide) sc_l_some.nd rfl (by first | exact Or.inl rfl | exact Or.inr rfl) (de_revL (db_var 3 (pv 3) (.inr (.inl (by trivial)))))))
  ds_nil)
  (ds_one (ds_ret gok0 rfl (de_type call_tuple_of cs_tuple (by rfl) T.n_tuple (by decide +kernel) (dm_bor (db_var 3 (pv 3) (.inr (.inl (by trivial)))) dm_nil)))))))
theorem ok_l_telling (T : Txt K mg) : FnOk P w K mg base (L2N.CX P w) 1 T.f_l_telling T.fd_l_telling ["_law_cases", "_law_firsts", "_law_follows", "_law_picks"] (spD K T.cm [false, false, false, false] false F_l_telling)   := dok (G' := []) (k := 0) T.F_l_telling sc_l_telling rfl (by decide) fun cdv A outer s H E hr =>
  (ds_cons (ds_set 4 gok0 sc_l_telling.nd rfl (by first | exact Or.inl rfl | exact Or.inr rfl) (de_ix (db_var 1 (pv 1) (.inl (by rfl))) (db_of (de_op op_mod os_mod (db_of (de_type cr_int cs_int (by rfl) T.n_int (by decide +kernel) (dm_bor (db_of (de_ix (db_var 3 (pv 3) (.inl (by rfl))) (db_of de_int) (fun _ _ => rfl))) dm_nil))) (db_of (de_bltn call_len cs_len (by rfl) T.n_len (by decide +kernel) (dm_bor (db_var 1 (pv 1) (.inl (by rfl))) dm_nil))))) (fun _ _ => rfl)))
  (ds_cons (ds_setO 5 gok0 (show 5 < 13 by decide) sc_l_telling.nd rfl (by first | exact Or.inl rfl | exact Or.inr rfl) (de_lst (da_cons (de_tup (da_cons (de_var 4 (pv 4) rfl) (da_cons (de_tup (da_cons (de_op op_mod os_mod (db_of (de_type cr_int cs_int (by rfl) T.n_int (by decide +kernel) (dm_bor (db_of (de_ix (db_var 3 (pv 3) (.inl (by rfl))) (db_of de_int) (fun _ _ => rfl))) dm_nil))) (db_of (de_bltn call_len cs_len (by rfl) T.n_len (by decide +kernel) (dm_bor (db_of (de_ix (db_of (de_ix (db_var 0 (pv 0) (.inl (by rfl))) (db_var 4 (pv 4) (.inl (by rfl))) (fun _ _ => rfl))) (db_of de_int) (fun _ _ => rfl))) dm_nil)))) da_nil)) da_nil))) da_nil)))
  (ds_cons (ds_for gok0 (passes_of rfl) rfl (di_list (de_sl (db_var 3 (pv 3) (.inl (by rfl))) (dp_some de_int) dp_none)) (dg_name 6 sc_l_telling.nd rfl (by first | exact Or.inl rfl | exact Or.inr rfl))
  (ds_cons (ds_asg gok0 (de_ix (db_var 5 (pv 5) (.inr (.inl (by trivial)))) (db_of (de_neg de_int)) (fun _ _ => rfl)) (dg_tup rfl (dg_cons (dg_name 4 sc_l_telling.nd rfl (by first | exact Or.inl rfl | exact Or.inr rfl)) (dg_cons (dg_name 7 sc_l_telling.nd rfl (by first | exact Or.inl rfl | exact Or.inr rfl)) dg_nil))))
  (ds_cons (ds_setLc 8 gok0 (by decide) rfl sc_l_telling.nd rfl rfl (sw_true rfl rfl rfl (by decide +kernel)) (own := [("_law_k", 9)]) (di_rng1 T.n_range (by rfl) (da_cons (de_bltn call_len cs_len (by rfl) T.n_len (by decide +kernel) (dm_bor (db_of (de_ix (db_of (de_ix (db_var 0 (pv 0) (.inl (by rfl))) (db_var 4 (pv 4) (.inl (by rfl))) (fun _ _ => rfl))) (db_of de_int) (fun _ _ => rfl))) dm_nil)) da_nil)) (blkOk_by (own := [("_law_k", 9)]) (N := ["_law_cases", "_law_firsts", "_law_follows", "_law_picks", "_law_case_here", "_law_told", "_law_pick", "_law_shapes", "_law_ways", "_law_k", "_law_many", "_law_other", "_law_at"]) (sc := defScope s_l_telling) (by decide +kernel)) (fun _ _ _ _ _ => (dg_name 9 sc_l_telling.nd rfl (by first | exact Or.inl rfl | exact Or.inr rfl))) (fun _ _ _ _ _ => dt_nil) (fun _ _ _ _ _ => (de_tup (da_cons (de_var 4 (pv 4) rfl) (da_cons (de_var 9 (pv 9) rfl) da_nil)))))
  (ds_cons (ds_set 10 gok0 sc_l_telling.nd rfl (by first | exact Or.inl rfl | exact Or.inr rfl) (de_bltn call_len cs_len (by rfl) T.n_len (by decide +kernel) (dm_bor (db_var 8 (pv 8) (.inr (.inl (by trivial)))) dm_nil)))
  (ds_pub 8 (ds_cons (ds_for gok0 (passes_of rfl) rfl (di_tup (de_ix (db_var 2 (pv 2) (.inl (by rfl))) (db_var 4 (pv 4) (.inl (by rfl))) (fun _ _ => rfl))) (dg_name 11 sc_l_telling.nd rfl (by first | exact Or.inl rfl | exact Or.inr rfl))
  (ds_one (ds_set 8 gok0 sc_l_telling.nd rfl (by first | exact Or.inl rfl | exact Or.inr rfl) (de_op or_add os_add (db_var 8 (pv 8) (.inl (by rfl))) (db_own (de_lc (own := [("_law_k", 9)]) rfl sc_l_telling.nd (di_rng1 T.n_range (by rfl) (da_cons (de_bltn call_len cs_len (by rfl) T.n_len (by decide +kernel) (dm_bor (db_of (de_ix (db_of (de_ix (db_var 0 (pv 0) (.inl (by rfl))) (db_var 11 (pv 11) (.inl (by rfl))) (fun _ _ => rfl))) (db_of de_int) (fun _ _ => rfl))) dm_nil)) da_nil)) (blkOk_by (own := [("_law_k", 9)]) (N := ["_law_cases", "_law_firsts", "_law_follows", "_law_picks", "_law_case_here", "_law_told", "_law_pick", "_law_shapes", "_law_ways", "_law_k", "_law_many", "_law_other", "_law_at"]) (sc := defScope s_l_telling) (by decide +kernel)) (fun _ _ _ _ _ => (dg_name 9 sc_l_telling.nd rfl (by first | exact Or.inl rfl | exact Or.inr rfl))) (fun _ _ _ _ _ => dt_nil) (fun _ _ _ _ _ => (de_tup (da_cons (de_var 11 (pv 11) rfl) (da_cons (de_var 9 (pv 9) rfl) da_nil))))))))))
  (ds_cons (ds_set 12 gok0 sc_l_telling.nd rfl (by first | exact Or.inl rfl | exact Or.inr rfl) (de_op op_mod os_mod (db_of (de_type cr_int cs_int (by rfl) T.n_int (by decide +kernel) (dm_bor (db_var 6 (pv 6) (.inl (by rfl))) dm_nil))) (db_of (de_bltn call_len cs_len (by rfl) T.n_len (by decide +kernel) (dm_bor (db_var 8 (pv 8) (.inl (by rfl))) dm_nil)))))
  (ds_one (ds_if gok0 (dt_cmp or_lt os_ord (db_var 12 (pv 12) (.inl (by rfl))) (db_var 10 (pv 10) (.inl (by rfl))) (nomark _))
  (ds_one (ds_sto 5 gok0 rfl (pv 5) (de_neg de_int) (de_tup (da_cons (de_var 4 (pv 4) rfl) (da_cons (de_op or_add os_add (db_var 7 (pv 7) (.inl (by rfl))) (db_of (de_tup (da_cons (de_ix (db_of (de_ix (db_var 8 (pv 8) (.inl (by rfl))) (db_var 12 (pv 12) (.inl (by rfl))) (fun _ _ => rfl))) (db_of de_int) (fun _ _ => rfl)) da_nil)))) da_nil)))))
  (ds_one (ds_app 5 gok0 rfl (pv 5) (de_tup (da_cons (de_ix (db_of (de_ix (db_var 8 (pv 8) (.inl (by rfl))) (db_var 12 (pv 12) (.inl (by rfl))) (fun _ _ => rfl))) (db_of de_int) (fun _ _ => rfl)) (da_cons (de_tup (da_cons (de_ix (db_of (de_ix (db_var 8 (pv 8) (.inl (by rfl))) (db_var 12 (pv 12) (.inl (by rfl))) (fun _ _ => rfl))) (db_of de_int) (fun _ _ => rfl)) da_nil)) da_nil))))))))) (.inl rfl))))))
  (ds_one (ds_ret gok0 rfl (de_type call_tuple_of cs_tuple (by rfl) T.n_tuple (by decide +kernel) (dm_bor (db_var 5 (pv 5) (.inr (.inl (by trivial)))) dm_nil)))))))
theorem ok_l_blocks (T : Txt K mg) : FnOk P w K mg base (L2N.CX P w) 1 T.f_l_blocks T.fd_l_blocks ["_law_cases", "_law_telling_here"] (spD K T.cm [false, false] false F_l_blocks)   := dok (G' := []) (k := 0) T.F_l_blocks sc_l_blocks rfl (by decide) fun cdv A outer s H E hr =>
  (ds_cons (ds_setO 2 gok0 (show 2 < 11 by decide) sc_l_blocks.nd rfl (by first | exact Or.inl rfl | exact Or.inr rfl) (de_lst da_nil))
  (ds_cons (ds_for gok0 (passes_of rfl) rfl (di_tup (de_var 1 (pv 1) rfl)) (dg_tup rfl (dg_cons (dg_name 3 sc_l_blocks.nd rfl (by first | exact Or.inl rfl | exact Or.inr rfl)) (dg_cons (dg_name 4 sc_l_blocks.nd rfl (by first | exact Or.inl rfl | exact Or.inr rfl)) dg_nil)))
  (ds_pubE (G' := [.v, .v, .o, .v, .v, .v, .o, .v, .v, .v, .v]) 6 (ds_cons (ds_set 5 gok0 sc_l_blocks.nd rfl (by first | exact Or.inl rfl | exact Or.inr rfl) (de_ix (db_var 0 (pv 0) (.inl (by rfl))) (db_var 3 (pv 3) (.inl (by rfl))) (fun _ _ => rfl)))
  (ds_cons (ds_setO 6 gok0 (show 6 < 11 by decide) sc_l_blocks.nd rfl (by first | exact Or.inl rfl | exact Or.inr rfl) (de_lst da_nil))
  (ds_cons (ds_for gok0 (passes_of rfl) rfl (di_rng1 T.n_range (by rfl) (da_cons (de_bltn call_len cs_len (by rfl) T.n_len (by decide +kernel) (dm_bor (db_var 4 (pv 4) (.inl (by rfl))) dm_nil)) da_nil)) (dg_name 7 sc_l_blocks.nd rfl (by first | exact Or.inl rfl | exact Or.inr rfl))
  (ds_cons (ds_set 8 gok0 sc_l_blocks.nd rfl (by first | exact Or.inl rfl | exact Or.inr rfl) (de_ix (db_of (de_ix (db_var 5 (pv 5) (.inl (by rfl))) (db_of de_int) (fun _ _ => rfl))) (db_of (de_ix (db_var 4 (pv 4) (.inl (by rfl))) (db_var 7 (pv 7) (.inl (by rfl))) (fun _ _ => rfl))) (fun _ _ => rfl)))
  (ds_one (ds_for gok0 (passes_of rfl) rfl (di_rng1 T.n_range (by rfl) (da_cons (de_bltn call_len cs_len (by rfl) T.n_len (by decide +kernel) (dm_bor (db_var 8 (pv 8) (.inl (by rfl))) dm_nil)) da_nil)) (dg_name 9 sc_l_blocks.nd rfl (by first | exact Or.inl rfl | exact Or.inr rfl))
  (ds_cons (ds_set 10 gok0 sc_l_blocks.nd rfl (by first | exact Or.inl rfl | exact Or.inr rfl) (de_tup (da_cons (de_strL (by decide +kernel)) (da_cons (de_ix (db_var 5 (pv 5) (.inl (by rfl))) (db_of de_int) (fun _ _ => rfl)) da_nil))))
  (ds_cons (ds_if gok0 (dt_cmp (or_eq hr.units) os_eq (db_var 9 (pv 9) (.inl (by rfl))) (db_of (de_op op_sub os_sub (db_of (de_bltn call_len cs_len (by rfl) T.n_len (by decide +kernel) (dm_bor (db_var 8 (pv 8) (.inl (by rfl))) dm_nil))) (db_of de_int))) (nomark _))
  (ds_one (ds_set 10 gok0 sc_l_blocks.nd rfl (by first | exact Or.inl rfl | exact Or.inr rfl) (de_tup (da_cons (de_strL (by decide +kernel)) (da_cons (de_ix (db_var 5 (pv 5) (.inl (by rfl))) (db_of de_int) (fun _ _ => rfl)) da_nil)))))
  ds_nil)
  (ds_cons (ds_if gok0 (PW.pt (dw_and (dt_cmp (or_eq hr.units) os_eq (db_var 9 (pv 9) (.inl (by rfl))) (db_of (de_op op_sub os_sub (db_of (de_bltn call_len cs_len (by rfl) T.n_len (by decide +kernel) (dm_bor (db_var 8 (pv 8) (.inl (by rfl))) dm_nil))) (db_of de_int))) (nomark _)) (dw_and1 (dt_cmp (or_eq hr.units) os_eq (db_var 7 (pv 7) (.inl (by rfl))) (db_of (de_op op_sub os_sub (db_of (de_bltn call_len cs_len (by rfl) T.n_len (by decide +kernel) (dm_bor (db_var 4 (pv 4) (.inl (by rfl))) dm_nil))) (db_of de_int))) (nomark _)))))
  (ds_one (ds_set 10 gok0 sc_l_blocks.nd rfl (by first | exact Or.inl rfl | exact Or.inr rfl) (de_tup (da_cons (de_strL (by decide +kernel)) da_nil))))
  ds_nil)
  (ds_one (ds_app 6 gok0 rfl (pv 6) (de_tup (da_cons (de_ix (db_var 8 (pv 8) (.inl (by rfl))) (db_var 9 (pv 9) (.inl (by rfl))) (fun _ _ => rfl)) (da_cons (de_var 10 (pv 10) rfl) (da_cons (de_tup da_nil) (da_cons (de_tup da_nil) da_nil))))))))))))))
  (ds_one (ds_app 2 gok0 rfl (pv 2) (de_tup (da_cons (de_ix (db_var 5 (pv 5) (.inl (by rfl))) (db_of de_int) (fun _ _ => rfl)) (da_cons (de_ix (db_var 5 (pv 5) (.inl (by rfl))) (db_of de_int) (fun _ _ => rfl)) (da_cons (de_ix (db_var 5 (pv 5) (.inl (by rfl))) (db_of de_int) (fun _ _ => rfl)) (da_cons (de_ix (db_var 5 (pv 5) (.inl (by rfl))) (db_of de_int) (fun _ _ => rfl)) (da_cons (de_type call_tuple_of cs_tuple (by rfl) T.n_tuple (by decide +kernel) (dm_bor (db_var 6 (pv 6) (.inr (.inl (by trivial)))) dm_nil)) da_nil))))))))))) (.inl rfl)))
  (ds_pub 2 (ds_one (ds_ret gok0 rfl (de_var 2 (pv 2) rfl))) (.inl rfl))))
theorem ok_l_galley_is (T : Txt K mg) : FnOk P w K mg base (L2N.CX P w) 10 T.f_l_galley_is T.fd_l_galley_is ["_law_galley", "_law_blocks_here"] (spD K T.cm [true, false] false F_l_galley_is)   := dok (G' := []) (k := 9) T.F_l_galley_is sc_l_galley_is rfl (by decide) fun cdv A outer s H E hr =>
  (ds_cons (ds_if gok0 (PW.pt (dw_or (dt_not (dt_val (de_isO T.cm_Galley T.ic_Galley T.n_isinstance (by rfl) (by rfl) T.g_Galley (db_var 0 (pv 0) (.inr (.inr (by rfl))))))) (dw_or1 (dt_not (dt_val (de_callV (ok_l_same (n := 8) T) (L2N.takes_of rfl rfl rfl rfl) (hr.mono (by decide)) (by rfl) T.g_l_same T.F_l_same.kp T.b_l_same (dm_bor (db_own (de_type (call_listO T.m_Galley___iter__ (ok_it_Galley T) T.m_Galley___len__ (ok_ln_Galley T) T.b_Galley_len (hr.mono (by decide)) rfl) (cs_listO T.cm_Galley) (by rfl) T.n_list (by decide +kernel) (dm_bor (db_var 0 (pv 0) (.inr (.inr (by rfl)))) dm_nil))) (dm_bor (db_var 1 (pv 1) (.inl (by rfl))) dm_nil))))))))
  (ds_one (ds_ret gok0 rfl de_bl))
  ds_nil)
  (ds_one (ds_ret gok0 rfl (de_cmp (or_eq hr.units) os_eq (db_of (de_bltn (call_lenO T.m_Galley___len__ (ok_Galley_len T) (hr.mono (by decide)) T.b_Galley_len) (cs_lenO T.cm_Galley) (by rfl) T.n_len (by decide +kernel) (dm_bor (db_var 0 (pv 0) (.inr (.inr (by rfl)))) dm_nil))) (db_of (de_bltn (cr_sum rfl) cs_sum (by rfl) T.n_sum (by decide +kernel) (dm_bor (db_own (de_lc (own := [("_law_block", 2)]) rfl sc_l_galley_is.nd (di_list (de_var 1 (pv 1) rfl)) (blkOk_by (own := [("_law_block", 2)]) (N := ["_law_galley", "_law_blocks_here", "_law_block"]) (sc := defScope s_l_galley_is) (by decide +kernel)) (fun _ _ _ _ _ => (dg_name 2 sc_l_galley_is.nd rfl (by first | exact Or.inl rfl | exact Or.inr rfl))) (fun _ _ _ _ _ => dt_nil) (fun _ _ _ _ _ => (de_bltn call_len cs_len (by rfl) T.n_len (by decide +kernel) (dm_bor (db_of (de_ix (db_var 2 (pv 2) (.inl (by rfl))) (db_of de_int) (fun _ _ => rfl))) dm_nil))))) dm_nil))) (nomark _)))))
theorem ok_l_is_telling (T : Txt K mg) : FnOk P w K mg base (L2N.CX P w) 2 T.f_l_is_telling T.fd_l_is_telling ["_law_cases", "_law_firsts", "_law_follows", "_law_telling_here", "_law_length"] (spD K T.cm [false, false, false, false, false] false F_l_is_telling)   := dok (G' := []) (k := 1) T.F_l_is_telling sc_l_is_telling rfl (by decide) fun cdv A outer s H E hr =>
  (ds_cons (ds_if gok0 (PW.pt (dw_or (dt_not (dt_val (de_isi "tuple" T.n_isinstance (by rfl) (by rfl) T.n_tuple (by decide +kernel) (db_var 3 (pv 3) (.inl (by rfl)))))) (dw_or1 (dt_cmp (or_eq hr.units) os_eq (db_of (de_bltn call_len cs_len (by rfl) T.n_len (by decide +kernel) (dm_bor (db_var 3 (pv 3) (.inl (by rfl))) dm_nil))) (db_of de_int) (nomark _)))))
  (ds_one (ds_ret gok0 rfl de_bl))
  ds_nil)
  (ds_cons (ds_set 5 gok0 sc_l_is_telling.nd rfl (by first | exact Or.inl rfl | exact Or.inr rfl) de_int)
  (ds_cons (ds_set 6 gok0 sc_l_is_telling.nd rfl (by first | exact Or.inl rfl | exact Or.inr rfl) (de_neg de_int))
  (ds_cons (ds_for gok0 (passes_of rfl) rfl (di_tup (de_var 3 (pv 3) rfl)) (dg_name 7 sc_l_is_telling.nd rfl (by first | exact Or.inl rfl | exact Or.inr rfl))
  (ds_cons (ds_if gok0 (PW.pt (dw_or (dt_not (dt_val (de_isi "tuple" T.n_isinstance (by rfl) (by rfl) T.n_tuple (by decide +kernel) (db_var 7 (pv 7) (.inl (by rfl)))))) (dw_or (dt_cmp (or_ne hr.units) os_ne (db_of (de_bltn call_len cs_len (by rfl) T.n_len (by decide +kernel) (dm_bor (db_var 7 (pv 7) (.inl (by rfl))) dm_nil))) (db_of de_int) (nomark _)) (dw_or (dt_not (dt_val (de_isi "tuple" T.n_isinstance (by rfl) (by rfl) T.n_tuple (by decide +kernel) (db_of (de_ix (db_var 7 (pv 7) (.inl (by rfl))) (db_of de_int) (fun _ _ => rfl)))))) (dw_or1 (dt_cmp (or_eq hr.units) os_eq (db_of (de_bltn call_len cs_len (by rfl) T.n_len (by decide +kernel) (dm_bor (db_of (de_ix (db_var 7 (pv 7) (.inl (by rfl))) (db_of de_int) (fun _ _ => rfl))) dm_nil))) (db_of de_int) (nomark _)))))))
  (ds_one (ds_ret gok0 rfl de_bl))
  ds_nil)
  (ds_cons (ds_if gok0 (PW.pt (dw_or (dt_not (dt_val (de_callV (ok_l_number T) (L2N.takes_of rfl rfl rfl rfl) (hr.mono (by decide)) (by rfl) T.g_l_number T.F_l_number.kp T.b_l_number (dm_val (de_ix (db_var 7 (pv 7) (.inl (by rfl))) (db_of de_int) (fun _ _ => rfl)) dm_nil)))) (dw_or1 (dt_not (dt_chain or_le os_ord or_lt os_ord (db_of de_int) (db_of (de_ix (db_var 7 (pv 7) (.inl (by rfl))) (db_of de_int) (fun _ _ => rfl))) (db_of (de_bltn call_len cs_len (by rfl) T.n_len (by decide +kernel) (dm_bor (db_var 0 (pv 0) (.inl (by rfl))) dm_nil))))))))
  (ds_one (ds_ret gok0 rfl de_bl))
  ds_nil)
  (ds_cons (ds_if gok0 (PW.pt (dw_or (PW.pt (dw_and (dt_cmp or_lt os_ord (db_var 6 (pv 6) (.inl (by rfl))) (db_of de_int) (nomark _)) (dw_and1 (dt_cmp (or_nin (hu65 hr)) os_nin (db_of (de_ix (db_var 7 (pv 7) (.inl (by rfl))) (db_of de_int) (fun _ _ => rfl))) (db_var 1 (pv 1) (.inl (by rfl))) (by rfl))))) (dw_or1 (PW.pt (dw_and (dt_cmp or_ge os_ord (db_var 6 (pv 6) (.inl (by rfl))) (db_of de_int) (nomark _)) (dw_and1 (dt_cmp (or_nin (hu65 hr)) os_nin (db_of (de_ix (db_var 7 (pv 7) (.inl (by rfl))) (db_of de_int) (fun _ _ => rfl))) (db_of (de_ix (db_var 2 (pv 2) (.inl (by rfl))) (db_var 6 (pv 6) (.inl (by rfl))) (fun _ _ => rfl))) (by rfl))))))))
  (ds_one (ds_ret gok0 rfl de_bl))
  ds_nil)
  (ds_cons (ds_for gok0 (passes_of rfl) rfl (di_tup (de_ix (db_var 7 (pv 7) (.inl (by rfl))) (db_of de_int) (fun _ _ => rfl))) (dg_name 8 sc_l_is_telling.nd rfl (by first | exact Or.inl rfl | exact Or.inr rfl))
  (ds_one (ds_if gok0 (PW.pt (dw_or (dt_not (dt_val (de_callV (ok_l_number T) (L2N.takes_of rfl rfl rfl rfl) (hr.mono (by decide)) (by rfl) T.g_l_number T.F_l_number.kp T.b_l_number (dm_val (de_var 8 (pv 8) rfl) dm_nil)))) (dw_or1 (dt_not (dt_chain or_le os_ord or_lt os_ord (db_of de_int) (db_var 8 (pv 8) (.inl (by rfl))) (db_of (de_bltn call_len cs_len (by rfl) T.n_len (by decide +kernel) (dm_bor (db_of (de_ix (db_of (de_ix (db_var 0 (pv 0) (.inl (by rfl))) (db_of (de_ix (db_var 7 (pv 7) (.inl (by rfl))) (db_of de_int) (fun _ _ => rfl))) (fun _ _ => rfl))) (db_of de_int) (fun _ _ => rfl))) dm_nil))))))))
  (ds_one (ds_ret gok0 rfl de_bl))
  ds_nil)))
  (ds_cons (ds_set 5 gok0 sc_l_is_telling.nd rfl (by first | exact Or.inl rfl | exact Or.inr rfl) (de_op or_add os_add (db_var 5 (pv 5) (.inl (by rfl))) (db_of (de_bltn call_len cs_len (by rfl) T.n_len (by decide +kernel) (dm_bor (db_of (de_ix (db_var 7 (pv 7) (.inl (by rfl))) (db_of de_int) (fun _ _ => rfl))) dm_nil)))))
  (ds_one (ds_set 6 gok0 sc_l_is_telling.nd rfl (by first | exact Or.inl rfl | exact Or.inr rfl) (de_ix (db_var 7 (pv 7) (.inl (by rfl))) (db_of de_int) (fun _ _ => rfl))))))))))
  (ds_one (ds_ret gok0 rfl (de_cmp (or_eq hr.units) os_eq (db_var 5 (pv 5) (.inl (by rfl))) (db_var 4 (pv 4) (.inl (by rfl))) (nomark _))))))))
theorem ok_l_count (T : Txt K mg) : FnOk P w K mg base (L2N.CX P w) 1 T.f_l_count T.fd_l_count ["_law_cases", "_law_firsts", "_law_follows", "_law_length"] (spD K T.cm [false, false, false, false] false F_l_count)   := dok (G' := []) (k := 0) T.F_l_count sc_l_count rfl (by decide) fun cdv A outer s H E hr =>
  (ds_cons (ds_setLc 4 gok0 (by decide) rfl sc_l_count.nd rfl rfl (sw_true rfl rfl rfl (by decide +kernel)) (own := [("_law_case_here", 5)]) (di_tup (de_var 0 (pv 0) rfl)) (blkOk_by (own := [("_law_case_here", 5)]) (N := ["_law_cases", "_law_firsts", "_law_follows", "_law_length", "_law_ways", "_law_case_here", "_law_step", "_law_grown", "_law_total", "_law_other"]) (sc := defScope s_l_count) (by decide +kernel)) (fun _ _ _ _ _ => (dg_name 5 sc_l_count.nd rfl (by first | exact Or.inl rfl | exact Or.inr rfl))) (fun _ _ _ _ _ => dt_nil) (fun _ _ _ _ _ => de_int))
  (ds_cons (ds_for gok0 (passes_of rfl) rfl (di_tup (de_var 1 (pv 1) rfl)) (dg_name 5 sc_l_count.nd rfl (by first | exact Or.inl rfl | exact Or.inr rfl))
  (ds_one (ds_sto 4 gok0 rfl (pv 4) (de_var 5 (pv 5) rfl) (de_bltn call_len cs_len (by rfl) T.n_len (by decide +kernel) (dm_bor (db_of (de_ix (db_of (de_ix (db_var 0 (pv 0) (.inl (by rfl))) (db_var 5 (pv 5) (.inl (by rfl))) (fun _ _ => rfl))) (db_of de_int) (fun _ _ => rfl))) dm_nil)))))
  (ds_pub 4 (ds_cons (ds_for gok0 (passes_of rfl) rfl (di_rng1 T.n_range (by rfl) (da_cons (de_op op_sub os_sub (db_var 3 (pv 3) (.inl (by rfl))) (db_of de_int)) da_nil)) (dg_name 6 sc_l_count.nd rfl (by first | exact Or.inl rfl | exact Or.inr rfl))
  (ds_cons (ds_setO 7 gok0 (show 7 < 10 by decide) sc_l_count.nd rfl (by first | exact Or.inl rfl | exact Or.inr rfl) (de_lst da_nil))
  (ds_cons (ds_for gok0 (passes_of rfl) rfl (di_rng1 T.n_range (by rfl) (da_cons (de_bltn call_len cs_len (by rfl) T.n_len (by decide +kernel) (dm_bor (db_var 0 (pv 0) (.inl (by rfl))) dm_nil)) da_nil)) (dg_name 5 sc_l_count.nd rfl (by first | exact Or.inl rfl | exact Or.inr rfl))
  (ds_cons (ds_set 8 gok0 sc_l_count.nd rfl (by first | exact Or.inl rfl | exact Or.inr rfl) (de_ix (db_var 4 (pv 4) (.inl (by rfl))) (db_var 5 (pv 5) (.inl (by rfl))) (fun _ _ => rfl)))
  (ds_cons (ds_for gok0 (passes_of rfl) rfl (di_rng1 T.n_range (by rfl) (da_cons (de_bltn call_len cs_len (by rfl) T.n_len (by decide +kernel) (dm_bor (db_var 0 (pv 0) (.inl (by rfl))) dm_nil)) da_nil)) (dg_name 9 sc_l_count.nd rfl (by first | exact Or.inl rfl | exact Or.inr rfl))
  (ds_one (ds_if gok0 (dt_cmp (or_in (hu65 hr)) os_in (db_var 5 (pv 5) (.inl (by rfl))) (db_of (de_ix (db_var 2 (pv 2) (.inl (by rfl))) (db_var 9 (pv 9) (.inl (by rfl))) (fun _ _ => rfl))) (by rfl))
  (ds_one (ds_set 8 gok0 sc_l_count.nd rfl (by first | exact Or.inl rfl | exact Or.inr rfl) (de_op or_add os_add (db_var 8 (pv 8) (.inl (by rfl))) (db_of (de_ix (db_var 4 (pv 4) (.inl (by rfl))) (db_var 9 (pv 9) (.inl (by rfl))) (fun _ _ => rfl))))))
  ds_nil)))
  (ds_one (ds_app 7 gok0 rfl (pv 7) (de_op or_mulX os_mulX (db_var 8 (pv 8) (.inl (by rfl))) (db_of (de_bltn call_len cs_len (by rfl) T.n_len (by decide +kernel) (dm_bor (db_of (de_ix (db_of (de_ix (db_var 0 (pv 0) (.inl (by rfl))) (db_var 5 (pv 5) (.inl (by rfl))) (fun _ _ => rfl))) (db_of de_int) (fun _ _ => rfl))) dm_nil)))))))))
  (ds_pub 7 (ds_one (ds_set 4 gok0 sc_l_count.nd rfl (by first | exact Or.inl rfl | exact Or.inr rfl) (de_var 7 (pv 7) rfl))) (.inl rfl)))))
  (ds_one (ds_ret gok0 rfl (de_bltn (cr_sum rfl) cs_sum (by rfl) T.n_sum (by decide +kernel) (dm_bor (db_var 4 (pv 4) (.inl (by rfl))) dm_nil))))) (.inl rfl))))
theorem ok_l_all_told (T : Txt K mg) : FnOk P w K mg base (L2N.CX P w) 43 T.f_l_all_told T.fd_l_all_told ["_law_family", "_law_cases", "_law_firsts", "_law_follows", "_law_length"] (spD K T.cm [false, false, false, false, false] false F_l_all_told)   := dok (G' := []) (k := 42) T.F_l_all_told sc_l_all_told rfl (by decide) fun cdv A outer s H E hr =>
  (ds_cons (ds_set 5 gok0 sc_l_all_told.nd rfl (by first | exact Or.inl rfl | exact Or.inr rfl) (de_pub (de_listGen (dg_methG (k := 37) T.cm_Family T.cl_Family T.m_Family_every_telling (ok_Family_every_telling T) (hr.mono (by decide)) T.b_Family_every_telling (fun r ds h => (congrArg (· + 1) ((dl_cons dl_nil) r ds h)).trans rfl) (de_var 0 (pv 0) rfl) (da_cons (de_var 4 (pv 4) rfl) da_nil)) (hr.mono (by decide)) (by rfl) T.n_list (by decide +kernel))))
  (ds_cons (ds_for gok0 (passes_of rfl) rfl (di_rng1 T.n_range (by rfl) (da_cons (de_bltn call_len cs_len (by rfl) T.n_len (by decide +kernel) (dm_bor (db_var 5 (pv 5) (.inl (by rfl))) dm_nil)) da_nil)) (dg_name 6 sc_l_all_told.nd rfl (by first | exact Or.inl rfl | exact Or.inr rfl))
  (ds_cons (ds_if gok0 (dt_not (dt_val (de_callV (ok_l_is_telling T) (L2N.takes_of rfl rfl rfl rfl) (hr.mono (by decide)) (by rfl) T.g_l_is_telling T.F_l_is_telling.kp T.b_l_is_telling (dm_val (de_var 1 (pv 1) rfl) (dm_val (de_var 2 (pv 2) rfl) (dm_val (de_var 3 (pv 3) rfl) (dm_val (de_ix (db_var 5 (pv 5) (.inl (by rfl))) (db_var 6 (pv 6) (.inl (by rfl))) (fun _ _ => rfl)) (dm_val (de_var 4 (pv 4) rfl) dm_nil))))))))
  (ds_one (ds_ret gok0 rfl de_bl))
  ds_nil)
  (ds_one (ds_if gok0 (PW.pt (dw_and (dt_cmp or_gt os_ord (db_var 6 (pv 6) (.inl (by rfl))) (db_of de_int) (nomark _)) (dw_and1 (dt_not (dt_cmp (op_ltD (Nat.lt_of_succ_lt (hu65 hr))) os_ltD (db_of (de_ix (db_var 5 (pv 5) (.inl (by rfl))) (db_of (de_op op_sub os_sub (db_var 6 (pv 6) (.inl (by rfl))) (db_of de_int))) (fun _ _ => rfl))) (db_of (de_ix (db_var 5 (pv 5) (.inl (by rfl))) (db_var 6 (pv 6) (.inl (by rfl))) (fun _ _ => rfl))) (nomark _))))))
  (ds_one (ds_ret gok0 rfl de_bl))
  ds_nil))))
  (ds_one (ds_ret gok0 rfl (de_cmp (or_eq hr.units) os_eq (db_of (de_bltn call_len cs_len (by rfl) T.n_len (by decide +kernel) (dm_bor (db_var 5 (pv 5) (.inl (by rfl))) dm_nil))) (db_of (de_callV (ok_l_count T) (L2N.takes_of rfl rfl rfl rfl) (hr.mono (by decide)) (by rfl) T.g_l_count T.F_l_count.kp T.b_l_count (dm_val (de_var 1 (pv 1) rfl) (dm_val (de_var 2 (pv 2) rfl) (dm_val (de_var 3 (pv 3) rfl) (dm_val (de_var 4 (pv 4) rfl) dm_nil)))))) (nomark _))))))
theorem ok_law (T : Txt K mg) : FnOk P w K mg base (L2N.CX P w) 44 T.f_law T.fd_law ["_law_script"] (spD K T.cm [false] false F_law)   := dok (G' := []) (k := 43) T.F_law sc_law rfl (by decide) fun cdv A outer s H E hr =>
  (ds_cons (ds_set 1 gok0 sc_law.nd rfl (by first | exact Or.inl rfl | exact Or.inr rfl) (de_callV (ok_l_row T) (L2N.takes_of rfl rfl rfl rfl) (hr.mono (by decide)) (by rfl) T.g_l_row T.F_l_row.kp T.b_l_row (dm_val (de_callV (ok_l_cell T) (L2N.takes_of rfl rfl rfl rfl) (hr.mono (by decide)) (by rfl) T.g_l_cell T.F_l_cell.kp T.b_l_cell (dm_val (de_var 0 (pv 0) rfl) (dm_val de_int dm_nil))) (dm_val (de_pub (de_lst (da_cons de_int (da_cons de_int (da_cons de_int (da_cons de_int (da_cons de_int (da_cons de_int (da_cons de_int (da_cons de_int (da_cons de_int (da_cons de_int da_nil)))))))))))) dm_nil))))
  (ds_cons (ds_set 2 gok0 sc_law.nd rfl (by first | exact Or.inl rfl | exact Or.inr rfl) (de_op or_add os_add (db_of (de_ix (db_var 1 (pv 1) (.inl (by rfl))) (db_of de_int) (fun _ _ => rfl))) (db_of de_int)))
  (ds_cons (ds_set 3 gok0 sc_law.nd rfl (by first | exact Or.inl rfl | exact Or.inr rfl) (de_type call_tuple_of cs_tuple (by rfl) T.n_tuple (by decide +kernel) (dm_bor (db_own (de_lc (own := [("_law_k", 4)]) rfl sc_law.nd (di_rng1 T.n_range (by rfl) (da_cons (de_var 2 (pv 2) rfl) da_nil)) (blkOk_by (own := [("_law_k", 4)]) (N := ["_law_script", "_law_way", "_law_many", "_law_cases", "_law_k", "_law_firsts", "_law_follows", "_law_family", "_law_row_here", "_law_telling_here", "_law_case_here", "_law_shapes", "_law_more", "_law_blocks_here", "_law_short", "_law_total", "_law_most"]) (sc := defScope s_law) (by decide +kernel)) (fun _ _ _ _ _ => (dg_name 4 sc_law.nd rfl (by first | exact Or.inl rfl | exact Or.inr rfl))) (fun _ _ _ _ _ => dt_nil) (fun _ _ _ _ _ => (de_callV (ok_l_case T) L2N.takes0 (hr.mono (by decide)) (by rfl) T.g_l_case T.F_l_case.kp T.b_l_case (dm_val (de_callV (ok_l_cell T) L2N.takes0 (hr.mono (by decide)) (by rfl) T.g_l_cell T.F_l_cell.kp T.b_l_cell (dm_val (de_var 0 (pv 0) rfl) (dm_val (de_op or_add os_add (db_var 4 (pv 4) (.inl (by rfl))) (db_of de_int)) dm_nil))) dm_nil))))) dm_nil)))
  (ds_cons (ds_set 5 gok0 sc_law.nd rfl (by first | exact Or.inl rfl | exact Or.inr rfl) (de_callV (ok_l_some T) (L2N.takes_of rfl rfl rfl rfl) (hr.mono (by decide)) (by rfl) T.g_l_some T.F_l_some.kp T.b_l_some (dm_val (de_op or_add os_add (db_of (de_ix (db_var 1 (pv 1) (.inl (by rfl))) (db_of de_int) (fun _ _ => rfl))) (db_of de_int)) (dm_val (de_var 2 (pv 2) rfl) (dm_val (de_ix (db_var 1 (pv 1) (.inl (by rfl))) (db_of de_int) (fun _ _ => rfl)) dm_nil)))))
  (ds_cons (ds_if gok0 (dt_cmp (or_eq hr.units) os_eq (db_of (de_bltn call_len cs_len (by rfl) T.n_len (by decide +kernel) (dm_bor (db_var 5 (pv 5) (.inl (by rfl))) dm_nil))) (db_of de_int) (nomark _))
  (ds_one (ds_set 5 gok0 sc_law.nd rfl (by first | exact Or.inl rfl | exact Or.inr rfl) (de_tup (da_cons de_int da_nil))))
  ds_nil)
  (ds_cons (ds_set 6 gok0 sc_law.nd rfl (by first | exact Or.inl rfl | exact Or.inr rfl) (de_type call_tuple_of cs_tuple (by rfl) T.n_tuple (by decide +kernel) (dm_bor (db_own (de_lc (own := [("_law_k", 4)]) rfl sc_law.nd (di_rng1 T.n_range (by rfl) (da_cons (de_var 2 (pv 2) rfl) da_nil)) (blkOk_by (own := [("_law_k", 4)]) (N := ["_law_script", "_law_way", "_law_many", "_law_cases", "_law_k", "_law_firsts", "_law_follows", "_law_family", "_law_row_here", "_law_telling_here", "_law_case_here", "_law_shapes", "_law_more", "_law_blocks_here", "_law_short", "_law_total", "_law_most"]) (sc := defScope s_law) (by decide +kernel)) (fun _ _ _ _ _ => (dg_name 4 sc_law.nd rfl (by first | exact Or.inl rfl | exact Or.inr rfl))) (fun _ _ _ _ _ => dt_nil) (fun _ _ _ _ _ => (de_callV (ok_l_some T) L2N.takes0 (hr.mono (by decide)) (by rfl) T.g_l_some T.F_l_some.kp T.b_l_some (dm_val (de_ix (db_var 1 (pv 1) (.inl (by rfl))) (db_of (de_op or_add os_add (db_of (de_op or_mulX os_mulX (db_of de_int) (db_var 4 (pv 4) (.inl (by rfl))))) (db_of de_int))) (fun _ _ => rfl)) (dm_val (de_var 2 (pv 2) rfl) (dm_val (de_ix (db_var 1 (pv 1) (.inl (by rfl))) (db_of (de_op or_add os_add (db_of (de_op or_mulX os_mulX (db_of de_int) (db_var 4 (pv 4) (.inl (by rfl))))) (db_of de_int))) (fun _ _ => rfl)) dm_nil))))))) dm_nil)))
  (ds_cons (ds_set 7 gok0 sc_law.nd rfl (by first | exact Or.inl rfl | exact Or.inr rfl) (de_pub (de_make T.mk_Family (ok_Family_init T) (L2N.takes_of rfl rfl rfl rfl) (hr.mono (by decide)) (by rfl) T.g_Family T.b_Family_init (dm_val (de_var 3 (pv 3) rfl) (dm_val (de_var 5 (pv 5) rfl) (dm_val (de_var 6 (pv 6) rfl) dm_nil))))))
  (ds_cons (ds_if gok0 (dt_not (dt_val (de_callV (ok_l_same (n := 8) T) (L2N.takes_of rfl rfl rfl rfl) (hr.mono (by decide)) (by rfl) T.g_l_same T.F_l_same.kp T.b_l_same (dm_bor (db_own (de_lst (da_cons (de_fld T.cm_Family T.cl_Family T.na_Family_cases (db_var 7 (pv 7) (.inl (by rfl)))) (da_cons (de_fld T.cm_Family T.cl_Family T.na_Family_firsts (db_var 7 (pv 7) (.inl (by rfl)))) (da_cons (de_fld T.cm_Family T.cl_Family T.na_Family_follows (db_var 7 (pv 7) (.inl (by rfl)))) da_nil))))) (dm_bor (db_own (de_lst (da_cons (de_var 3 (pv 3) rfl) (da_cons (de_var 5 (pv 5) rfl) (da_cons (de_var 6 (pv 6) rfl) da_nil))))) dm_nil)))))
  (ds_one (ds_ret gok0 rfl de_bl))
  ds_nil)
  (ds_cons (ds_set 8 gok0 sc_law.nd rfl (by first | exact Or.inl rfl | exact Or.inr rfl) (de_callV (ok_l_row T) (L2N.takes_of rfl rfl rfl rfl) (hr.mono (by decide)) (by rfl) T.g_l_row T.F_l_row.kp T.b_l_row (dm_val (de_callV (ok_l_cell T) (L2N.takes_of rfl rfl rfl rfl) (hr.mono (by decide)) (by rfl) T.g_l_cell T.F_l_cell.kp T.b_l_cell (dm_val (de_var 0 (pv 0) rfl) (dm_val de_int dm_nil))) (dm_val (de_op or_add os_add (db_own (de_lst (da_cons de_int (da_cons de_int (da_cons de_int (da_cons de_int (da_cons de_int da_nil))))))) (db_of (de_op or_mulX os_mulX (db_own (de_lst (da_cons de_int da_nil))) (db_of de_int)))) dm_nil))))
  (ds_cons (ds_set 9 gok0 sc_law.nd rfl (by first | exact Or.inl rfl | exact Or.inr rfl) (de_callV (ok_l_telling T) (L2N.takes_of rfl rfl rfl rfl) (hr.mono (by decide)) (by rfl) T.g_l_telling T.F_l_telling.kp T.b_l_telling (dm_val (de_var 3 (pv 3) rfl) (dm_val (de_var 5 (pv 5) rfl) (dm_val (de_var 6 (pv 6) rfl) (dm_val (de_sl (db_var 8 (pv 8) (.inl (by rfl))) (dp_some de_int) (dp_some (de_op or_add os_add (db_of (de_ix (db_var 8 (pv 8) (.inl (by rfl))) (db_of de_int) (fun _ _ => rfl))) (db_of de_int)))) dm_nil))))))
  (ds_cons (ds_if gok0 (dt_cmp (or_eq hr.units) os_eq (db_of (de_ix (db_var 8 (pv 8) (.inl (by rfl))) (db_of de_int) (fun _ _ => rfl))) (db_of de_int) (nomark _))
  (ds_cons (ds_asg gok0 (de_ix (db_var 9 (pv 9) (.inl (by rfl))) (db_of (de_neg de_int)) (fun _ _ => rfl)) (dg_tup rfl (dg_cons (dg_name 10 sc_law.nd rfl (by first | exact Or.inl rfl | exact Or.inr rfl)) (dg_cons (dg_name 11 sc_law.nd rfl (by first | exact Or.inl rfl | exact Or.inr rfl)) dg_nil))))
  (ds_cons (ds_set 12 gok0 sc_law.nd rfl (by first | exact Or.inl rfl | exact Or.inr rfl) (de_type call_tuple_of cs_tuple (by rfl) T.n_tuple (by decide +kernel) (dm_bor (db_own (de_lc (own := [("_law_k", 4)]) rfl sc_law.nd (di_rng1 T.n_range (by rfl) (da_cons (de_op or_add os_add (db_of (de_ix (db_var 8 (pv 8) (.inl (by rfl))) (db_of de_int) (fun _ _ => rfl))) (db_of de_int)) da_nil)) (blkOk_by (own := [("_law_k", 4)]) (N := ["_law_script", "_law_way", "_law_many", "_law_cases", "_law_k", "_law_firsts", "_law_follows", "_law_family", "_law_row_here", "_law_telling_here", "_law_case_here", "_law_shapes", "_law_more", "_law_blocks_here", "_law_short", "_law_total", "_law_most"]) (sc := defScope s_law) (by decide +kernel)) (fun _ _ _ _ _ => (dg_name 4 sc_law.nd rfl (by first | exact Or.inl rfl | exact Or.inr rfl))) (fun _ _ _ _ _ => dt_nil) (fun _ _ _ _ _ => (de_op op_mod os_mod (db_of (de_type cr_int cs_int (by rfl) T.n_int (by decide +kernel) (dm_bor (db_var 4 (pv 4) (.inl (by rfl))) dm_nil))) (db_of (de_bltn call_len cs_len (by rfl) T.n_len (by decide +kernel) (dm_bor (db_of (de_ix (db_of (de_ix (db_var 3 (pv 3) (.inl (by rfl))) (db_var 10 (pv 10) (.inl (by rfl))) (fun _ _ => rfl))) (db_of de_int) (fun _ _ => rfl))) dm_nil))))))) dm_nil)))
  (ds_one (ds_set 9 gok0 sc_law.nd rfl (by first | exact Or.inl rfl | exact Or.inr rfl) (de_op or_add os_add (db_of (de_sl (db_var 9 (pv 9) (.inl (by rfl))) dp_none (dp_some (de_neg de_int)))) (db_of (de_tup (da_cons (de_tup (da_cons (de_var 10 (pv 10) rfl) (da_cons (de_op or_add os_add (db_var 11 (pv 11) (.inl (by rfl))) (db_var 12 (pv 12) (.inl (by rfl)))) da_nil))) da_nil))))))))
  ds_nil)
  (ds_cons (ds_set 13 gok0 sc_law.nd rfl (by first | exact Or.inl rfl | exact Or.inr rfl) (de_callV (ok_l_blocks T) (L2N.takes_of rfl rfl rfl rfl) (hr.mono (by decide)) (by rfl) T.g_l_blocks T.F_l_blocks.kp T.b_l_blocks (dm_val (de_var 3 (pv 3) rfl) (dm_val (de_var 9 (pv 9) rfl) dm_nil))))
  (ds_cons (ds_if gok0 (dt_not (dt_val (de_callV (ok_l_galley_is T) (L2N.takes_of rfl rfl rfl rfl) (hr.mono (by decide)) (by rfl) T.g_l_galley_is T.F_l_galley_is.kp T.b_l_galley_is (dm_bor (db_of (de_meth (rm := false) T.cm_Family T.cl_Family T.m_Family_galley_of (ok_Family_galley_of T) (L2N.takes_of rfl rfl rfl rfl) (hr.mono (by decide)) T.b_Family_galley_of (db_var 7 (pv 7) (.inl (by rfl))) (dm_val (de_var 9 (pv 9) rfl) dm_nil))) (dm_val (de_var 13 (pv 13) rfl) dm_nil)))))
  (ds_one (ds_ret gok0 rfl de_bl))
  ds_nil)
  (ds_cons (ds_set 14 gok0 sc_law.nd rfl (by first | exact Or.inl rfl | exact Or.inr rfl) (de_tup (da_cons (de_tup (da_cons (de_ix (db_var 5 (pv 5) (.inl (by rfl))) (db_of de_int) (fun _ _ => rfl)) (da_cons (de_tup (da_cons de_int da_nil)) da_nil))) da_nil)))
  (ds_cons (ds_if gok0 (dt_not (dt_val (de_callV (ok_l_galley_is T) (L2N.takes_of rfl rfl rfl rfl) (hr.mono (by decide)) (by rfl) T.g_l_galley_is T.F_l_galley_is.kp T.b_l_galley_is (dm_bor (db_of (de_meth (rm := false) T.cm_Family T.cl_Family T.m_Family_galley_of (ok_Family_galley_of T) (L2N.takes_of rfl rfl rfl rfl) (hr.mono (by decide)) T.b_Family_galley_of (db_var 7 (pv 7) (.inl (by rfl))) (dm_val (de_var 14 (pv 14) rfl) dm_nil))) (dm_val (de_callV (ok_l_blocks T) (L2N.takes_of rfl rfl rfl rfl) (hr.mono (by decide)) (by rfl) T.g_l_blocks T.F_l_blocks.kp T.b_l_blocks (dm_val (de_var 3 (pv 3) rfl) (dm_val (de_var 14 (pv 14) rfl) dm_nil))) dm_nil)))))
  (ds_one (ds_ret gok0 rfl de_bl))
  ds_nil)
  (ds_cons (ds_if gok0 (dt_not (dt_val (de_callV (ok_l_galley_is T) (L2N.takes_of rfl rfl rfl rfl) (hr.mono (by decide)) (by rfl) T.g_l_galley_is T.F_l_galley_is.kp T.b_l_galley_is (dm_bor (db_of (de_meth (rm := false) T.cm_Family T.cl_Family T.m_Family_galley_of (ok_Family_galley_of T) (L2N.takes_of rfl rfl rfl rfl) (hr.mono (by decide)) T.b_Family_galley_of (db_var 7 (pv 7) (.inl (by rfl))) (dm_val (de_var 9 (pv 9) rfl) dm_nil))) (dm_val (de_var 13 (pv 13) rfl) dm_nil)))))
  (ds_one (ds_ret gok0 rfl de_bl))
  ds_nil)
  (ds_cons (ds_set 15 gok0 sc_law.nd rfl (by first | exact Or.inl rfl | exact Or.inr rfl) (de_bltn (cr_sum rfl) cs_sum (by rfl) T.n_sum (by decide +kernel) (dm_bor (db_own (de_lc (own := [("_law_case_here", 10)]) rfl sc_law.nd (di_tup (de_var 3 (pv 3) rfl)) (blkOk_by (own := [("_law_case_here", 10)]) (N := ["_law_script", "_law_way", "_law_many", "_law_cases", "_law_k", "_law_firsts", "_law_follows", "_law_family", "_law_row_here", "_law_telling_here", "_law_case_here", "_law_shapes", "_law_more", "_law_blocks_here", "_law_short", "_law_total", "_law_most"]) (sc := defScope s_law) (by decide +kernel)) (fun _ _ _ _ _ => (dg_name 10 sc_law.nd rfl (by first | exact Or.inl rfl | exact Or.inr rfl))) (fun _ _ _ _ _ => dt_nil) (fun _ _ _ _ _ => (de_bltn call_len cs_len (by rfl) T.n_len (by decide +kernel) (dm_bor (db_of (de_ix (db_var 10 (pv 10) (.inl (by rfl))) (db_of de_int) (fun _ _ => rfl))) dm_nil))))) dm_nil)))
  (ds_cons (ds_set 16 gok0 sc_law.nd rfl (by first | exact Or.inl rfl | exact Or.inr rfl) de_int)
  (ds_cons (ds_if gok0 (dt_cmp or_le os_ord (db_var 15 (pv 15) (.inl (by rfl))) (db_of de_int) (nomark _))
  (ds_one (ds_set 16 gok0 sc_law.nd rfl (by first | exact Or.inl rfl | exact Or.inr rfl) de_int))
  ds_nil)
  (ds_cons (ds_if gok0 (dt_cmp or_le os_ord (db_var 15 (pv 15) (.inl (by rfl))) (db_of de_int) (nomark _))
  (ds_one (ds_set 16 gok0 sc_law.nd rfl (by first | exact Or.inl rfl | exact Or.inr rfl) de_int))
  ds_nil)
  (ds_one (ds_ret gok0 rfl (de_callV (ok_l_all_told T) (L2N.takes_of rfl rfl rfl rfl) (hr.mono (by decide)) (by rfl) T.g_l_all_told T.F_l_all_told.kp T.b_l_all_told (dm_val (de_var 7 (pv 7) rfl) (dm_val (de_var 3 (pv 3) rfl) (dm_val (de_var 5 (pv 5) rfl) (dm_val (de_var 6 (pv 6) rfl) (dm_val (de_op or_add os_add (db_of de_int) (db_of (de_op op_mod os_mod (db_of (de_type cr_int cs_int (by rfl) T.n_int (by decide +kernel) (dm_bor (db_of (de_ix (db_var 1 (pv 1) (.inl (by rfl))) (db_of de_int) (fun _ _ => rfl))) dm_nil))) (db_var 16 (pv 16) (.inl (by rfl)))))) dm_nil))))))))))))))))))))))))))))
end
end Lk
end S_P_walk
section S_P_end
set_option Elab.async false
set_option linter.all false
set_option maxRecDepth 100000
set_option maxHeartbeats 4000000
namespace Lk
open PySem L2 Dx PySem.Spec PyProof.Rows
theorem txt_mk {K : PySem.W.Frag} {h : Heap} {mg : Str → Option Value} (X : K.In h) (G : h.Ns mainGlobals mg)
    {f0 : Addr} {oc0 kV0 dc0 pm0 cd0 ct0 : Value} {od0 an0 : Option Addr} {sl0 : Array (Option Value)}
    {f1 : Addr} {oc1 kV1 dc1 pm1 cd1 ct1 : Value} {od1 an1 : Option Addr} {sl1 : Array (Option Value)}
    {f2 : Addr} {oc2 kV2 dc2 pm2 cd2 ct2 : Value} {od2 an2 : Option Addr} {sl2 : Array (Option Value)}
    {f3 : Addr} {oc3 kV3 dc3 pm3 cd3 ct3 : Value} {od3 an3 : Option Addr} {sl3 : Array (Option Value)}
    {dtT3 dtE3 : Addr} {ocT3 : Value} {odT3 odE3 : Option Addr} {nT3 nE3 : Nat} {slT3 slE3 : Array (Option Value)}
    {f4 : Addr} {oc4 kV4 dc4 pm4 cd4 ct4 : Value} {od4 an4 : Option Addr} {sl4 : Array (Option Value)}
    {f5 : Addr} {oc5 kV5 dc5 pm5 cd5 ct5 : Value} {od5 an5 : Option Addr} {sl5 : Array (Option Value)}
    {f6 : Addr} {oc6 kV6 dc6 pm6 cd6 ct6 : Value} {od6 an6 : Option Addr} {sl6 : Array (Option Value)}
    {f7 : Addr} {oc7 kV7 dc7 pm7 cd7 ct7 : Value} {od7 an7 : Option Addr} {sl7 : Array (Option Value)}
    {f8 : Addr} {oc8 kV8 dc8 pm8 cd8 ct8 : Value} {od8 an8 : Option Addr} {sl8 : Array (Option Value)}
    {f9 : Addr} {oc9 kV9 dc9 pm9 cd9 ct9 : Value} {od9 an9 : Option Addr} {sl9 : Array (Option Value)}
    {f10 : Addr} {oc10 kV10 dc10 pm10 cd10 ct10 : Value} {od10 an10 : Option Addr} {sl10 : Array (Option Value)}
    {f11 : Addr} {oc11 kV11 dc11 pm11 cd11 ct11 : Value} {od11 an11 : Option Addr} {sl11 : Array (Option Value)}
    {f12 : Addr} {oc12 kV12 dc12 pm12 cd12 ct12 : Value} {od12 an12 : Option Addr} {sl12 : Array (Option Value)}
    {f13 : Addr} {oc13 kV13 dc13 pm13 cd13 ct13 : Value} {od13 an13 : Option Addr} {sl13 : Array (Option Value)}
    {f14 : Addr} {oc14 kV14 dc14 pm14 cd14 ct14 : Value} {od14 an14 : Option Addr} {sl14 : Array (Option Value)}
    {f15 : Addr} {oc15 kV15 dc15 pm15 cd15 ct15 : Value} {od15 an15 : Option Addr} {sl15 : Array (Option Value)}
    {f16 : Addr} {oc16 kV16 dc16 pm16 cd16 ct16 : Value} {od16 an16 : Option Addr} {sl16 : Array (Option Value)}
    {f17 : Addr} {oc17 kV17 dc17 pm17 cd17 ct17 : Value} {od17 an17 : Option Addr} {sl17 : Array (Option Value)}
    {f18 : Addr} {oc18 kV18 dc18 pm18 cd18 ct18 : Value} {od18 an18 : Option Addr} {sl18 : Array (Option Value)}
    {f19 : Addr} {oc19 kV19 dc19 pm19 cd19 ct19 : Value} {od19 an19 : Option Addr} {sl19 : Array (Option Value)}
    {f20 : Addr} {oc20 kV20 dc20 pm20 cd20 ct20 : Value} {od20 an20 : Option Addr} {sl20 : Array (Option Value)}
    {f21 : Addr} {oc21 kV21 dc21 pm21 cd21 ct21 : Value} {od21 an21 : Option Addr} {sl21 : Array (Option Value)}
    {f22 : Addr} {oc22 kV22 dc22 pm22 cd22 ct22 : Value} {od22 an22 : Option Addr} {sl22 : Array (Option Value)}
    {f23 : Addr} {oc23 kV23 dc23 pm23 cd23 ct23 : Value} {od23 an23 : Option Addr} {sl23 : Array (Option Value)}
    {f24 : Addr} {oc24 kV24 dc24 pm24 cd24 ct24 : Value} {od24 an24 : Option Addr} {sl24 : Array (Option Value)}
    {f25 : Addr} {oc25 kV25 dc25 pm25 cd25 ct25 : Value} {od25 an25 : Option Addr} {sl25 : Array (Option Value)}
    {t_MOST_FIGURES : Tok}
    {t_MOST_PIECES : Tok}
    {A_TooLarge : Addr}
    {nm_TooLarge qq_TooLarge : Str} {N_TooLarge fI_TooLarge : Addr} {bs_TooLarge bm_TooLarge : List Value} {sn_TooLarge : List Str} {sb_TooLarge : List Value} {ab_TooLarge : Bool} {co_TooLarge : Option Bool} {dd_TooLarge od_TooLarge an_TooLarge : Option Addr} {m0_TooLarge m1_TooLarge m2_TooLarge m3_TooLarge m5_TooLarge : Option Value} {oc_TooLarge kV_TooLarge dc_TooLarge pm_TooLarge cd_TooLarge ct_TooLarge : Value} {sl_TooLarge : Array (Option Value)}
    {A_Family : Addr}
    {A_Galley : Addr}
    (a0 : PySem.W.nsIn K mainGlobals "pieces_in" = some (some (.ref f0)))
    (l0 : K.lookup f0 = some ⟨oc0, od0, .func (PySem.W.fnOf "pieces_in" "pieces_in" (defArgs s_pieces_in) (defBody s_pieces_in) (defScope s_pieces_in) .none kV0 dc0 pm0 an0 cd0 ct0), sl0⟩) (c0 : PySem.W.codeIn K cd0 "pieces_in" = true) (k0 : PySem.W.keepIn K (.ref f0) = true)
    (a1 : PySem.W.nsIn K mainGlobals "figures_in" = some (some (.ref f1)))
    (l1 : K.lookup f1 = some ⟨oc1, od1, .func (PySem.W.fnOf "figures_in" "figures_in" (defArgs s_figures_in) (defBody s_figures_in) (defScope s_figures_in) .none kV1 dc1 pm1 an1 cd1 ct1), sl1⟩) (c1 : PySem.W.codeIn K cd1 "figures_in" = true) (k1 : PySem.W.keepIn K (.ref f1) = true)
    (a2 : PySem.W.nsIn K mainGlobals "spans_in" = some (some (.ref f2)))
    (l2 : K.lookup f2 = some ⟨oc2, od2, .func (PySem.W.fnOf "spans_in" "spans_in" (defArgs s_spans_in) (defBody s_spans_in) (defScope s_spans_in) .none kV2 dc2 pm2 an2 cd2 ct2), sl2⟩) (c2 : PySem.W.codeIn K cd2 "spans_in" = true) (k2 : PySem.W.keepIn K (.ref f2) = true)
    (l3 : K.lookup f3 = some ⟨oc3, od3, .func (PySem.W.fnOf "__init__" "Galley.__init__" (defArgs s_Galley_init) (defBody s_Galley_init) (defScope s_Galley_init) (.ref dtT3) kV3 dc3 pm3 an3 cd3 ct3), sl3⟩) (c3 : PySem.W.codeIn K cd3 "Galley.__init__" = true) (k3 : PySem.W.keepIn K (.ref f3) = true)
    (lT3 : K.lookup dtT3 = some ⟨ocT3, odT3, .seq #[.ref dtE3] nT3, slT3⟩) (lE3 : K.lookup dtE3 = some ⟨.type "tuple", odE3, .seq #[] nE3, slE3⟩)
    (l4 : K.lookup f4 = some ⟨oc4, od4, .func (PySem.W.fnOf "__len__" "Galley.__len__" (defArgs s_Galley_len) (defBody s_Galley_len) (defScope s_Galley_len) .none kV4 dc4 pm4 an4 cd4 ct4), sl4⟩) (c4 : PySem.W.codeIn K cd4 "Galley.__len__" = true) (k4 : PySem.W.keepIn K (.ref f4) = true)
    (a5 : PySem.W.nsIn K mainGlobals "long_galley" = some (some (.ref f5)))
    (l5 : K.lookup f5 = some ⟨oc5, od5, .func (PySem.W.fnOf "long_galley" "long_galley" (defArgs s_long_galley) (defBody s_long_galley) (defScope s_long_galley) .none kV5 dc5 pm5 an5 cd5 ct5), sl5⟩) (c5 : PySem.W.codeIn K cd5 "long_galley" = true) (k5 : PySem.W.keepIn K (.ref f5) = true)
    (a6 : PySem.W.nsIn K mainGlobals "rows_below" = some (some (.ref f6)))
    (l6 : K.lookup f6 = some ⟨oc6, od6, .func (PySem.W.fnOf "rows_below" "rows_below" (defArgs s_rows_below) (defBody s_rows_below) (defScope s_rows_below) .none kV6 dc6 pm6 an6 cd6 ct6), sl6⟩) (c6 : PySem.W.codeIn K cd6 "rows_below" = true) (k6 : PySem.W.keepIn K (.ref f6) = true)
    (a7 : PySem.W.nsIn K mainGlobals "block_of_case" = some (some (.ref f7)))
    (l7 : K.lookup f7 = some ⟨oc7, od7, .func (PySem.W.fnOf "block_of_case" "block_of_case" (defArgs s_block_of_case) (defBody s_block_of_case) (defScope s_block_of_case) .none kV7 dc7 pm7 an7 cd7 ct7), sl7⟩) (c7 : PySem.W.codeIn K cd7 "block_of_case" = true) (k7 : PySem.W.keepIn K (.ref f7) = true)
    (l8 : K.lookup f8 = some ⟨oc8, od8, .func (PySem.W.fnOf "__init__" "Family.__init__" (defArgs s_Family_init) (defBody s_Family_init) (defScope s_Family_init) .none kV8 dc8 pm8 an8 cd8 ct8), sl8⟩) (c8 : PySem.W.codeIn K cd8 "Family.__init__" = true) (k8 : PySem.W.keepIn K (.ref f8) = true)
    (l9 : K.lookup f9 = some ⟨oc9, od9, .func (PySem.W.fnOf "galley_of" "Family.galley_of" (defArgs s_Family_galley_of) (defBody s_Family_galley_of) (defScope s_Family_galley_of) .none kV9 dc9 pm9 an9 cd9 ct9), sl9⟩) (c9 : PySem.W.codeIn K cd9 "Family.galley_of" = true) (k9 : PySem.W.keepIn K (.ref f9) = true)
    (l10 : K.lookup f10 = some ⟨oc10, od10, .func (PySem.W.fnOf "tellings_from" "Family.tellings_from" (defArgs s_Family_tellings_from) (defBody s_Family_tellings_from) (defScope s_Family_tellings_from) .none kV10 dc10 pm10 an10 cd10 ct10), sl10⟩) (c10 : PySem.W.codeIn K cd10 "Family.tellings_from" = true) (k10 : PySem.W.keepIn K (.ref f10) = true)
    (l11 : K.lookup f11 = some ⟨oc11, od11, .func (PySem.W.fnOf "every_telling" "Family.every_telling" (defArgs s_Family_every_telling) (defBody s_Family_every_telling) (defScope s_Family_every_telling) .none kV11 dc11 pm11 an11 cd11 ct11), sl11⟩) (c11 : PySem.W.codeIn K cd11 "Family.every_telling" = true) (k11 : PySem.W.keepIn K (.ref f11) = true)
    (a12 : PySem.W.nsIn K mainGlobals "_law_cell" = some (some (.ref f12)))
    (l12 : K.lookup f12 = some ⟨oc12, od12, .func (PySem.W.fnOf "_law_cell" "_law_cell" (defArgs s_l_cell) (defBody s_l_cell) (defScope s_l_cell) .none kV12 dc12 pm12 an12 cd12 ct12), sl12⟩) (c12 : PySem.W.codeIn K cd12 "_law_cell" = true) (k12 : PySem.W.keepIn K (.ref f12) = true)
    (a13 : PySem.W.nsIn K mainGlobals "_law_row" = some (some (.ref f13)))
    (l13 : K.lookup f13 = some ⟨oc13, od13, .func (PySem.W.fnOf "_law_row" "_law_row" (defArgs s_l_row) (defBody s_l_row) (defScope s_l_row) .none kV13 dc13 pm13 an13 cd13 ct13), sl13⟩) (c13 : PySem.W.codeIn K cd13 "_law_row" = true) (k13 : PySem.W.keepIn K (.ref f13) = true)
    (a14 : PySem.W.nsIn K mainGlobals "_law_number" = some (some (.ref f14)))
    (l14 : K.lookup f14 = some ⟨oc14, od14, .func (PySem.W.fnOf "_law_number" "_law_number" (defArgs s_l_number) (defBody s_l_number) (defScope s_l_number) .none kV14 dc14 pm14 an14 cd14 ct14), sl14⟩) (c14 : PySem.W.codeIn K cd14 "_law_number" = true) (k14 : PySem.W.keepIn K (.ref f14) = true)
    (a15 : PySem.W.nsIn K mainGlobals "_law_same" = some (some (.ref f15)))
    (l15 : K.lookup f15 = some ⟨oc15, od15, .func (PySem.W.fnOf "_law_same" "_law_same" (defArgs s_l_same) (defBody s_l_same) (defScope s_l_same) .none kV15 dc15 pm15 an15 cd15 ct15), sl15⟩) (c15 : PySem.W.codeIn K cd15 "_law_same" = true) (k15 : PySem.W.keepIn K (.ref f15) = true)
    (a16 : PySem.W.nsIn K mainGlobals "_law_case" = some (some (.ref f16)))
    (l16 : K.lookup f16 = some ⟨oc16, od16, .func (PySem.W.fnOf "_law_case" "_law_case" (defArgs s_l_case) (defBody s_l_case) (defScope s_l_case) .none kV16 dc16 pm16 an16 cd16 ct16), sl16⟩) (c16 : PySem.W.codeIn K cd16 "_law_case" = true) (k16 : PySem.W.keepIn K (.ref f16) = true)
    (a17 : PySem.W.nsIn K mainGlobals "_law_some" = some (some (.ref f17)))
    (l17 : K.lookup f17 = some ⟨oc17, od17, .func (PySem.W.fnOf "_law_some" "_law_some" (defArgs s_l_some) (defBody s_l_some) (defScope s_l_some) .none kV17 dc17 pm17 an17 cd17 ct17), sl17⟩) (c17 : PySem.W.codeIn K cd17 "_law_some" = true) (k17 : PySem.W.keepIn K (.ref f17) = true)
    (a18 : PySem.W.nsIn K mainGlobals "_law_telling" = some (some (.ref f18)))
    (l18 : K.lookup f18 = some ⟨oc18, od18, .func (PySem.W.fnOf "_law_telling" "_law_telling" (defArgs s_l_telling) (defBody s_l_telling) (defScope s_l_telling) .none kV18 dc18 pm18 an18 cd18 ct18), sl18⟩) (c18 : PySem.W.codeIn K cd18 "_law_telling" = true) (k18 : PySem.W.keepIn K (.ref f18) = true)
    (a19 : PySem.W.nsIn K mainGlobals "_law_blocks" = some (some (.ref f19)))
    (l19 : K.lookup f19 = some ⟨oc19, od19, .func (PySem.W.fnOf "_law_blocks" "_law_blocks" (defArgs s_l_blocks) (defBody s_l_blocks) (defScope s_l_blocks) .none kV19 dc19 pm19 an19 cd19 ct19), sl19⟩) (c19 : PySem.W.codeIn K cd19 "_law_blocks" = true) (k19 : PySem.W.keepIn K (.ref f19) = true)
    (a20 : PySem.W.nsIn K mainGlobals "_law_galley_is" = some (some (.ref f20)))
    (l20 : K.lookup f20 = some ⟨oc20, od20, .func (PySem.W.fnOf "_law_galley_is" "_law_galley_is" (defArgs s_l_galley_is) (defBody s_l_galley_is) (defScope s_l_galley_is) .none kV20 dc20 pm20 an20 cd20 ct20), sl20⟩) (c20 : PySem.W.codeIn K cd20 "_law_galley_is" = true) (k20 : PySem.W.keepIn K (.ref f20) = true)
    (a21 : PySem.W.nsIn K mainGlobals "_law_is_telling" = some (some (.ref f21)))
    (l21 : K.lookup f21 = some ⟨oc21, od21, .func (PySem.W.fnOf "_law_is_telling" "_law_is_telling" (defArgs s_l_is_telling) (defBody s_l_is_telling) (defScope s_l_is_telling) .none kV21 dc21 pm21 an21 cd21 ct21), sl21⟩) (c21 : PySem.W.codeIn K cd21 "_law_is_telling" = true) (k21 : PySem.W.keepIn K (.ref f21) = true)
    (a22 : PySem.W.nsIn K mainGlobals "_law_count" = some (some (.ref f22)))
    (l22 : K.lookup f22 = some ⟨oc22, od22, .func (PySem.W.fnOf "_law_count" "_law_count" (defArgs s_l_count) (defBody s_l_count) (defScope s_l_count) .none kV22 dc22 pm22 an22 cd22 ct22), sl22⟩) (c22 : PySem.W.codeIn K cd22 "_law_count" = true) (k22 : PySem.W.keepIn K (.ref f22) = true)
    (a23 : PySem.W.nsIn K mainGlobals "_law_all_told" = some (some (.ref f23)))
    (l23 : K.lookup f23 = some ⟨oc23, od23, .func (PySem.W.fnOf "_law_all_told" "_law_all_told" (defArgs s_l_all_told) (defBody s_l_all_told) (defScope s_l_all_told) .none kV23 dc23 pm23 an23 cd23 ct23), sl23⟩) (c23 : PySem.W.codeIn K cd23 "_law_all_told" = true) (k23 : PySem.W.keepIn K (.ref f23) = true)
    (a24 : PySem.W.nsIn K mainGlobals "law" = some (some (.ref f24)))
    (l24 : K.lookup f24 = some ⟨oc24, od24, .func (PySem.W.fnOf "law" "law" (defArgs s_law) (defBody s_law) (defScope s_law) .none kV24 dc24 pm24 an24 cd24 ct24), sl24⟩) (c24 : PySem.W.codeIn K cd24 "law" = true) (k24 : PySem.W.keepIn K (.ref f24) = true)
    (l25 : K.lookup f25 = some ⟨oc25, od25, .func (PySem.W.fnOf "__iter__" "Galley.__iter__" (defArgs s_Galley_iter) (defBody s_Galley_iter) (defScope s_Galley_iter) .none kV25 dc25 pm25 an25 cd25 ct25), sl25⟩) (c25 : PySem.W.codeIn K cd25 "Galley.__iter__" = true) (k25 : PySem.W.keepIn K (.ref f25) = true)
    (z_bool : PySem.W.nsIn K mainGlobals "bool" = some none)
    (z_enumerate : PySem.W.nsIn K mainGlobals "enumerate" = some none)
    (z_int : PySem.W.nsIn K mainGlobals "int" = some none)
    (z_isinstance : PySem.W.nsIn K mainGlobals "isinstance" = some none)
    (z_iter : PySem.W.nsIn K mainGlobals "iter" = some none)
    (z_len : PySem.W.nsIn K mainGlobals "len" = some none)
    (z_list : PySem.W.nsIn K mainGlobals "list" = some none)
    (z_range : PySem.W.nsIn K mainGlobals "range" = some none)
    (z_set : PySem.W.nsIn K mainGlobals "set" = some none)
    (z_sorted : PySem.W.nsIn K mainGlobals "sorted" = some none)
    (z_str : PySem.W.nsIn K mainGlobals "str" = some none)
    (z_sum : PySem.W.nsIn K mainGlobals "sum" = some none)
    (z_tuple : PySem.W.nsIn K mainGlobals "tuple" = some none)
    (y_MOST_FIGURES : PySem.W.nsIn K mainGlobals "MOST_FIGURES" = some (some (.int 4 t_MOST_FIGURES)))
    (y_MOST_PIECES : PySem.W.nsIn K mainGlobals "MOST_PIECES" = some (some (.int 40 t_MOST_PIECES)))
    (x_TooLarge : PySem.W.nsIn K mainGlobals "TooLarge" = some (some (.ref A_TooLarge)))
    (X1_TooLarge : K.lookup A_TooLarge = some (excClassObj nm_TooLarge qq_TooLarge A_TooLarge N_TooLarge bs_TooLarge bm_TooLarge true sn_TooLarge sb_TooLarge ab_TooLarge co_TooLarge dd_TooLarge m0_TooLarge m1_TooLarge m2_TooLarge m3_TooLarge m5_TooLarge "ValueError.__new__")) (X2_TooLarge : PySem.HandSPX.refsVE bm_TooLarge = true)
    (X3_TooLarge : PySem.W.findIn K (.ref A_TooLarge) "__setattr__" = some (some (.builtin "object.__setattr__"))) (X4_TooLarge : PySem.W.subIn K (.ref A_TooLarge) (.type "BaseException") = some true) (X5_TooLarge : PySem.W.typeIn K (.ref A_TooLarge) = some (.type "type")) (X6_TooLarge : PySem.W.keepIn K (.ref A_TooLarge) = true)
    (X7_TooLarge : PySem.W.findIn K (.ref A_TooLarge) "__init__" = some (some (.ref fI_TooLarge))) (X8_TooLarge : PySem.W.typeIn K (.ref fI_TooLarge) = some (.type "function")) (X9_TooLarge : K.lookup fI_TooLarge = some ⟨oc_TooLarge, od_TooLarge, .func (PySem.W.fnOf "__init__" "TooLarge.__init__" (defArgs s_TooLarge) (defBody s_TooLarge) (defScope s_TooLarge) .none kV_TooLarge dc_TooLarge pm_TooLarge an_TooLarge cd_TooLarge ct_TooLarge), sl_TooLarge⟩) (Xa_TooLarge : PySem.W.codeIn K cd_TooLarge "TooLarge.__init__" = true) (Xb_TooLarge : PySem.W.keepIn K (.ref fI_TooLarge) = true)
    (Y0_TooLarge : PySem.W.findIn K (.ref A_TooLarge) "many" = some none)
    (Xc_TooLarge : PySem.W.findIn K (.ref A_TooLarge) "__getattribute__" = some (some (.builtin "BaseException.__getattribute__"))) (Xd_TooLarge : PySem.W.findIn K (.ref A_TooLarge) "__getattr__" = some none) (Xe_TooLarge : PySem.W.hasDictIn K A_TooLarge = true)
    (Xf_TooLarge : PySem.W.findIn K (.ref A_TooLarge) "__class__" = some (some (.builtin "object.__class__"))) (Xg_TooLarge : PySem.W.specialIn K (.builtin "object.__class__") "__get__" = some (some (.builtin "getset_descriptor.__get__"))) (Xh_TooLarge : PySem.W.takesIn K (.builtin "object.__class__") = some true) (Xi_TooLarge : PySem.W.mroIn K A_TooLarge (.type "object") = some true)
    (x_Family : PySem.W.nsIn K mainGlobals "Family" = some (some (.ref A_Family))) (P1_Family : PySem.W.plainGet K A_Family Str.empty = true) (P2_Family : PySem.W.hasDictIn K A_Family = true) (P3_Family : PySem.W.plainOver K A_Family = true) (P4_Family : PySem.W.findIn K (.ref A_Family) "__setattr__" = some (some (.builtin "object.__setattr__")))
    (x_Galley : PySem.W.nsIn K mainGlobals "Galley" = some (some (.ref A_Galley))) (P1_Galley : PySem.W.plainGet K A_Galley Str.empty = true) (P2_Galley : PySem.W.hasDictIn K A_Galley = true) (P3_Galley : PySem.W.plainOver K A_Galley = true) (P4_Galley : PySem.W.findIn K (.ref A_Galley) "__setattr__" = some (some (.builtin "object.__setattr__")))
    (M1_Family : PySem.W.makesIn K A_Family = true) (M2_Family : PySem.W.findIn K (.ref A_Family) "__init__" = some (some (.ref f8))) (M3_Family : PySem.W.isFn K (.ref f8) = true) (M4_Family : PySem.W.keepIn K (.ref A_Family) = true)
    (M1_Galley : PySem.W.makesIn K A_Galley = true) (M2_Galley : PySem.W.findIn K (.ref A_Galley) "__init__" = some (some (.ref f3))) (M3_Galley : PySem.W.isFn K (.ref f3) = true) (M4_Galley : PySem.W.keepIn K (.ref A_Galley) = true)
    (N_Family_cases : PySem.W.findIn K (.ref A_Family) "cases" = some none)
    (N_Family_firsts : PySem.W.findIn K (.ref A_Family) "firsts" = some none)
    (N_Family_follows : PySem.W.findIn K (.ref A_Family) "follows" = some none)
    (N_Galley_all_figures : PySem.W.findIn K (.ref A_Galley) "all_figures" = some none)
    (N_Galley_all_pieces : PySem.W.findIn K (.ref A_Galley) "all_pieces" = some none)
    (N_Galley_blocks : PySem.W.findIn K (.ref A_Galley) "blocks" = some none)
    (N_Galley_spans : PySem.W.findIn K (.ref A_Galley) "spans" = some none)
    (m1_Family_every_telling : PySem.W.findIn K (.ref A_Family) "every_telling" = some (some (.ref f11))) (m2_Family_every_telling : PySem.W.isFn K (.ref f11) = true)
    (m1_Family_galley_of : PySem.W.findIn K (.ref A_Family) "galley_of" = some (some (.ref f9))) (m2_Family_galley_of : PySem.W.isFn K (.ref f9) = true)
    (m1_Family_tellings_from : PySem.W.findIn K (.ref A_Family) "tellings_from" = some (some (.ref f10))) (m2_Family_tellings_from : PySem.W.isFn K (.ref f10) = true)
    (m1_Galley___iter__ : PySem.W.findIn K (.ref A_Galley) "__iter__" = some (some (.ref f25))) (m2_Galley___iter__ : PySem.W.isFn K (.ref f25) = true)
    (m1_Galley___len__ : PySem.W.findIn K (.ref A_Galley) "__len__" = some (some (.ref f4))) (m2_Galley___len__ : PySem.W.isFn K (.ref f4) = true)
    (I1_Galley : PySem.W.findIn K (.ref A_Galley) "__class__" = some (some (.builtin "object.__class__"))) (I2_Galley : PySem.W.specialIn K (.builtin "object.__class__") "__get__" = some (some (.builtin "getset_descriptor.__get__"))) (I3_Galley : PySem.W.takesIn K (.builtin "object.__class__") = some true) (I4_Galley : PySem.W.mroIn K A_Galley (.type "object") = some true) (Q_Galley_self : PySem.W.kitOne K (.ref A_Galley) (.ref A_Galley) = some true)
    (Q_Galley_NoneType : PySem.W.kitOne K (.type "NoneType") (.ref A_Galley) = some false)
    (Q_Galley_bool : PySem.W.kitOne K (.type "bool") (.ref A_Galley) = some false)
    (Q_Galley_int : PySem.W.kitOne K (.type "int") (.ref A_Galley) = some false)
    (Q_Galley_str : PySem.W.kitOne K (.type "str") (.ref A_Galley) = some false)
    (Q_Galley_list : PySem.W.kitOne K (.type "list") (.ref A_Galley) = some false)
    (Q_Galley_tuple : PySem.W.kitOne K (.type "tuple") (.ref A_Galley) = some false)
    (Q_Galley_dict : PySem.W.kitOne K (.type "dict") (.ref A_Galley) = some false) : ∃ T : Txt K mg, T.f_law = f24 ∧ T.fd_law = PySem.W.fnOf "law" "law" (defArgs s_law) (defBody s_law) (defScope s_law) .none kV24 dc24 pm24 an24 cd24 ct24 := by
  have F0 := fun_mk (st := s_pieces_in) l0 c0 k0
  have b0 := F0.binds (ps := ["blocks"]) fun _ _ _ _ _ _ us hl => match us, hl with | [_], _ => rfl
  have F1 := fun_mk (st := s_figures_in) l1 c1 k1
  have b1 := F1.binds (ps := ["blocks"]) fun _ _ _ _ _ _ us hl => match us, hl with | [_], _ => rfl
  have F2 := fun_mk (st := s_spans_in) l2 c2 k2
  have b2 := F2.binds (ps := ["blocks"]) fun _ _ _ _ _ _ us hl => match us, hl with | [_], _ => rfl
  have F3 := funE_mk (st := s_Galley_init) l3 c3 k3
  have b3 := binds_d (fd := PySem.W.fnOf "__init__" "Galley.__init__" (defArgs s_Galley_init) (defBody s_Galley_init) (defScope s_Galley_init) (.ref dtT3) kV3 dc3 pm3 an3 cd3 ct3) (ps := ["self", "blocks"]) (its := [.ref dtE3]) 2 1 lT3 rfl rfl fun us hl => match us, hl with | [_, _], _ => ⟨_, rfl, rfl⟩
  have bd3 := binds_d (fd := PySem.W.fnOf "__init__" "Galley.__init__" (defArgs s_Galley_init) (defBody s_Galley_init) (defScope s_Galley_init) (.ref dtT3) kV3 dc3 pm3 an3 cd3 ct3) (ps := ["self", "blocks"]) (its := [.ref dtE3]) 1 0 lT3 rfl rfl fun us hl => match us, hl with | [_], _ => ⟨_, rfl, rfl⟩
  have F4 := fun_mk (st := s_Galley_len) l4 c4 k4
  have b4 := F4.binds (ps := ["self"]) fun _ _ _ _ _ _ us hl => match us, hl with | [_], _ => rfl
  have F5 := fun_mk (st := s_long_galley) l5 c5 k5
  have b5 := F5.binds (ps := ["blocks"]) fun _ _ _ _ _ _ us hl => match us, hl with | [_], _ => rfl
  have F6 := fun_mk (st := s_rows_below) l6 c6 k6
  have b6 := F6.binds (ps := ["many", "most"]) fun _ _ _ _ _ _ us hl => match us, hl with | [_, _], _ => rfl
  have F7 := fun_mk (st := s_block_of_case) l7 c7 k7
  have b7 := F7.binds (ps := ["case", "shapes"]) fun _ _ _ _ _ _ us hl => match us, hl with | [_, _], _ => rfl
  have F8 := fun_mk (st := s_Family_init) l8 c8 k8
  have b8 := F8.binds (ps := ["self", "cases", "firsts", "follows"]) fun _ _ _ _ _ _ us hl => match us, hl with | [_, _, _, _], _ => rfl
  have F9 := fun_mk (st := s_Family_galley_of) l9 c9 k9
  have b9 := F9.binds (ps := ["self", "telling"]) fun _ _ _ _ _ _ us hl => match us, hl with | [_, _], _ => rfl
  have F10 := fun_mk (st := s_Family_tellings_from) l10 c10 k10
  have b10 := F10.binds (ps := ["self", "firsts", "length"]) fun _ _ _ _ _ _ us hl => match us, hl with | [_, _, _], _ => rfl
  have F11 := fun_mk (st := s_Family_every_telling) l11 c11 k11
  have b11 := F11.binds (ps := ["self", "length"]) fun _ _ _ _ _ _ us hl => match us, hl with | [_, _], _ => rfl
  have F12 := fun_mk (st := s_l_cell) l12 c12 k12
  have b12 := F12.binds (ps := ["_law_script", "_law_k"]) fun _ _ _ _ _ _ us hl => match us, hl with | [_, _], _ => rfl
  have F13 := fun_mk (st := s_l_row) l13 c13 k13
  have b13 := F13.binds (ps := ["_law_cell_here", "_law_limits"]) fun _ _ _ _ _ _ us hl => match us, hl with | [_, _], _ => rfl
  have F14 := fun_mk (st := s_l_number) l14 c14 k14
  have b14 := F14.binds (ps := ["_law_value"]) fun _ _ _ _ _ _ us hl => match us, hl with | [_], _ => rfl
  have F15 := fun_mk (st := s_l_same) l15 c15 k15
  have b15 := F15.binds (ps := ["_law_one", "_law_two"]) fun _ _ _ _ _ _ us hl => match us, hl with | [_, _], _ => rfl
  have F16 := fun_mk (st := s_l_case) l16 c16 k16
  have b16 := F16.binds (ps := ["_law_cell_here"]) fun _ _ _ _ _ _ us hl => match us, hl with | [_], _ => rfl
  have F17 := fun_mk (st := s_l_some) l17 c17 k17
  have b17 := F17.binds (ps := ["_law_bits", "_law_many", "_law_turned"]) fun _ _ _ _ _ _ us hl => match us, hl with | [_, _, _], _ => rfl
  have F18 := fun_mk (st := s_l_telling) l18 c18 k18
  have b18 := F18.binds (ps := ["_law_cases", "_law_firsts", "_law_follows", "_law_picks"]) fun _ _ _ _ _ _ us hl => match us, hl with | [_, _, _, _], _ => rfl
  have F19 := fun_mk (st := s_l_blocks) l19 c19 k19
  have b19 := F19.binds (ps := ["_law_cases", "_law_telling_here"]) fun _ _ _ _ _ _ us hl => match us, hl with | [_, _], _ => rfl
  have F20 := fun_mk (st := s_l_galley_is) l20 c20 k20
  have b20 := F20.binds (ps := ["_law_galley", "_law_blocks_here"]) fun _ _ _ _ _ _ us hl => match us, hl with | [_, _], _ => rfl
  have F21 := fun_mk (st := s_l_is_telling) l21 c21 k21
  have b21 := F21.binds (ps := ["_law_cases", "_law_firsts", "_law_follows", "_law_telling_here", "_law_length"]) fun _ _ _ _ _ _ us hl => match us, hl with | [_, _, _, _, _], _ => rfl
  have F22 := fun_mk (st := s_l_count) l22 c22 k22
  have b22 := F22.binds (ps := ["_law_cases", "_law_firsts", "_law_follows", "_law_length"]) fun _ _ _ _ _ _ us hl => match us, hl with | [_, _, _, _], _ => rfl
  have F23 := fun_mk (st := s_l_all_told) l23 c23 k23
  have b23 := F23.binds (ps := ["_law_family", "_law_cases", "_law_firsts", "_law_follows", "_law_length"]) fun _ _ _ _ _ _ us hl => match us, hl with | [_, _, _, _, _], _ => rfl
  have F24 := fun_mk (st := s_law) l24 c24 k24
  have b24 := F24.binds (ps := ["_law_script"]) fun _ _ _ _ _ _ us hl => match us, hl with | [_], _ => rfl
  have F25 := fun_mk (st := s_Galley_iter) l25 c25 k25
  have b25 := F25.binds (ps := ["self"]) fun _ _ _ _ _ _ us hl => match us, hl with | [_], _ => rfl
  have FI_TooLarge := fun_mk (st := s_TooLarge) X9_TooLarge Xa_TooLarge Xb_TooLarge
  have bI_TooLarge := FI_TooLarge.binds (ps := ["self", "many"]) fun _ _ _ _ _ _ us hl => match us, hl with | [_, _], _ => rfl
  exact ⟨⟨f0, _, F0, PySem.W.mg_of X G a0, b0, f1, _, F1, PySem.W.mg_of X G a1, b1, f2, _, F2, PySem.W.mg_of X G a2, b2, f3, _, F3, b3, dtE3, bd3, (fun S => kt_nil (oc := .none) lE3 S), f4, _, F4, b4, f5, _, F5, PySem.W.mg_of X G a5, b5, f6, _, F6, PySem.W.mg_of X G a6, b6, f7, _, F7, PySem.W.mg_of X G a7, b7, f8, _, F8, b8, f9, _, F9, b9, f10, _, F10, b10, f11, _, F11, b11, f12, _, F12, PySem.W.mg_of X G a12, b12, f13, _, F13, PySem.W.mg_of X G a13, b13, f14, _, F14, PySem.W.mg_of X G a14, b14, f15, _, F15, PySem.W.mg_of X G a15, b15, f16, _, F16, PySem.W.mg_of X G a16, b16, f17, _, F17, PySem.W.mg_of X G a17, b17, f18, _, F18, PySem.W.mg_of X G a18, b18, f19, _, F19, PySem.W.mg_of X G a19, b19, f20, _, F20, PySem.W.mg_of X G a20, b20, f21, _, F21, PySem.W.mg_of X G a21, b21, f22, _, F22, PySem.W.mg_of X G a22, b22, f23, _, F23, PySem.W.mg_of X G a23, b23, f24, _, F24, PySem.W.mg_of X G a24, b24, f25, _, F25, b25, PySem.W.mg_none_of X G z_bool, PySem.W.mg_none_of X G z_enumerate, PySem.W.mg_none_of X G z_int, PySem.W.mg_none_of X G z_isinstance, PySem.W.mg_none_of X G z_iter, PySem.W.mg_none_of X G z_len, PySem.W.mg_none_of X G z_list, PySem.W.mg_none_of X G z_range, PySem.W.mg_none_of X G z_set, PySem.W.mg_none_of X G z_sorted, PySem.W.mg_none_of X G z_str, PySem.W.mg_none_of X G z_sum, PySem.W.mg_none_of X G z_tuple, _, PySem.W.mg_of X G y_MOST_FIGURES, _, PySem.W.mg_of X G y_MOST_PIECES, A_TooLarge, PySem.W.mg_of X G x_TooLarge, ⟨⟨_, _, _, _, _, _, _, _, _, _, _, _, _, _, _, X1_TooLarge, X2_TooLarge⟩, X3_TooLarge, X4_TooLarge, X5_TooLarge, X6_TooLarge⟩, fI_TooLarge, _, X7_TooLarge, X8_TooLarge, FI_TooLarge, bI_TooLarge, Y0_TooLarge, ⟨Xc_TooLarge, Xd_TooLarge, X4_TooLarge, Xe_TooLarge⟩, ⟨Xc_TooLarge, Xd_TooLarge, X4_TooLarge, Xe_TooLarge, Xf_TooLarge, Xg_TooLarge, Xh_TooLarge, Xi_TooLarge⟩, A_Family, PySem.W.mg_of X G x_Family, ⟨P1_Family, P2_Family, P3_Family, P4_Family⟩, A_Galley, PySem.W.mg_of X G x_Galley, ⟨P1_Galley, P2_Galley, P3_Galley, P4_Galley⟩, ⟨M1_Family, M2_Family, M3_Family, M4_Family⟩, ⟨M1_Galley, M2_Galley, M3_Galley, M4_Galley⟩, N_Family_cases, N_Family_firsts, N_Family_follows, N_Galley_all_figures, N_Galley_all_pieces, N_Galley_blocks, N_Galley_spans, ⟨m1_Family_every_telling, m2_Family_every_telling, k11⟩, ⟨m1_Family_galley_of, m2_Family_galley_of, k9⟩, ⟨m1_Family_tellings_from, m2_Family_tellings_from, k10⟩, ⟨m1_Galley___iter__, m2_Galley___iter__, k25⟩, ⟨m1_Galley___len__, m2_Galley___len__, k4⟩, ⟨⟨P1_Galley, P2_Galley, P3_Galley, P4_Galley⟩, I1_Galley, I2_Galley, I3_Galley, I4_Galley, Q_Galley_self, tyAll_of Q_Galley_NoneType Q_Galley_bool Q_Galley_int Q_Galley_str Q_Galley_list Q_Galley_tuple Q_Galley_dict⟩⟩, rfl, rfl⟩
def spLaw (K : PySem.W.Frag) : Sp := fun vs H Q _ => ∃ (a : Addr) (ns : List Int), vs = [.ref a] ∧ SqL K H a (ns.map V.int) ∧ ns.length ≤ 63 ∧ ∀ H', Q (.bl true) H'
theorem ok_end {P : Program} {w : World} {K : PySem.W.Frag} {mg : Str → Option Value} {base : Heap} (T : Txt K mg) : FnOk P w K mg base (L2N.CX P w) 44 T.f_law T.fd_law ["_law_script"] (spLaw K) := FnOk.imp (ok_law T) fun vs H Q E ⟨a, ns, e, hS, hl, k⟩ => by
  subst e
  exact law_sp (law_true ns hl) hS k
theorem all_mk {l : PySem.W.OpenLaw} {w : World} {K : PySem.W.Frag} {h : Heap} {mg : Str → Option Value} {fa : Addr} (X : K.In h) (G : h.Ns mainGlobals mg) (hfa : mg "law" = some (.ref fa))
    {f0 : Addr} {oc0 kV0 dc0 pm0 cd0 ct0 : Value} {od0 an0 : Option Addr} {sl0 : Array (Option Value)}
    {f1 : Addr} {oc1 kV1 dc1 pm1 cd1 ct1 : Value} {od1 an1 : Option Addr} {sl1 : Array (Option Value)}
    {f2 : Addr} {oc2 kV2 dc2 pm2 cd2 ct2 : Value} {od2 an2 : Option Addr} {sl2 : Array (Option Value)}
    {f3 : Addr} {oc3 kV3 dc3 pm3 cd3 ct3 : Value} {od3 an3 : Option Addr} {sl3 : Array (Option Value)}
    {dtT3 dtE3 : Addr} {ocT3 : Value} {odT3 odE3 : Option Addr} {nT3 nE3 : Nat} {slT3 slE3 : Array (Option Value)}
    {f4 : Addr} {oc4 kV4 dc4 pm4 cd4 ct4 : Value} {od4 an4 : Option Addr} {sl4 : Array (Option Value)}
    {f5 : Addr} {oc5 kV5 dc5 pm5 cd5 ct5 : Value} {od5 an5 : Option Addr} {sl5 : Array (Option Value)}
    {f6 : Addr} {oc6 kV6 dc6 pm6 cd6 ct6 : Value} {od6 an6 : Option Addr} {sl6 : Array (Option Value)}
    {f7 : Addr} {oc7 kV7 dc7 pm7 cd7 ct7 : Value} {od7 an7 : Option Addr} {sl7 : Array (Option Value)}
    {f8 : Addr} {oc8 kV8 dc8 pm8 cd8 ct8 : Value} {od8 an8 : Option Addr} {sl8 : Array (Option Value)}
    {f9 : Addr} {oc9 kV9 dc9 pm9 cd9 ct9 : Value} {od9 an9 : Option Addr} {sl9 : Array (Option Value)}
    {f10 : Addr} {oc10 kV10 dc10 pm10 cd10 ct10 : Value} {od10 an10 : Option Addr} {sl10 : Array (Option Value)}
    {f11 : Addr} {oc11 kV11 dc11 pm11 cd11 ct11 : Value} {od11 an11 : Option Addr} {sl11 : Array (Option Value)}
    {f12 : Addr} {oc12 kV12 dc12 pm12 cd12 ct12 : Value} {od12 an12 : Option Addr} {sl12 : Array (Option Value)}
    {f13 : Addr} {oc13 kV13 dc13 pm13 cd13 ct13 : Value} {od13 an13 : Option Addr} {sl13 : Array (Option Value)}
    {f14 : Addr} {oc14 kV14 dc14 pm14 cd14 ct14 : Value} {od14 an14 : Option Addr} {sl14 : Array (Option Value)}
    {f15 : Addr} {oc15 kV15 dc15 pm15 cd15 ct15 : Value} {od15 an15 : Option Addr} {sl15 : Array (Option Value)}
    {f16 : Addr} {oc16 kV16 dc16 pm16 cd16 ct16 : Value} {od16 an16 : Option Addr} {sl16 : Array (Option Value)}
    {f17 : Addr} {oc17 kV17 dc17 pm17 cd17 ct17 : Value} {od17 an17 : Option Addr} {sl17 : Array (Option Value)}
    {f18 : Addr} {oc18 kV18 dc18 pm18 cd18 ct18 : Value} {od18 an18 : Option Addr} {sl18 : Array (Option Value)}
    {f19 : Addr} {oc19 kV19 dc19 pm19 cd19 ct19 : Value} {od19 an19 : Option Addr} {sl19 : Array (Option Value)}
    {f20 : Addr} {oc20 kV20 dc20 pm20 cd20 ct20 : Value} {od20 an20 : Option Addr} {sl20 : Array (Option Value)}
    {f21 : Addr} {oc21 kV21 dc21 pm21 cd21 ct21 : Value} {od21 an21 : Option Addr} {sl21 : Array (Option Value)}
    {f22 : Addr} {oc22 kV22 dc22 pm22 cd22 ct22 : Value} {od22 an22 : Option Addr} {sl22 : Array (Option Value)}
    {f23 : Addr} {oc23 kV23 dc23 pm23 cd23 ct23 : Value} {od23 an23 : Option Addr} {sl23 : Array (Option Value)}
    {f24 : Addr} {oc24 kV24 dc24 pm24 cd24 ct24 : Value} {od24 an24 : Option Addr} {sl24 : Array (Option Value)}
    {f25 : Addr} {oc25 kV25 dc25 pm25 cd25 ct25 : Value} {od25 an25 : Option Addr} {sl25 : Array (Option Value)}
    {t_MOST_FIGURES : Tok}
    {t_MOST_PIECES : Tok}
    {A_TooLarge : Addr}
    {nm_TooLarge qq_TooLarge : Str} {N_TooLarge fI_TooLarge : Addr} {bs_TooLarge bm_TooLarge : List Value} {sn_TooLarge : List Str} {sb_TooLarge : List Value} {ab_TooLarge : Bool} {co_TooLarge : Option Bool} {dd_TooLarge od_TooLarge an_TooLarge : Option Addr} {m0_TooLarge m1_TooLarge m2_TooLarge m3_TooLarge m5_TooLarge : Option Value} {oc_TooLarge kV_TooLarge dc_TooLarge pm_TooLarge cd_TooLarge ct_TooLarge : Value} {sl_TooLarge : Array (Option Value)}
    {A_Family : Addr}
    {A_Galley : Addr}
    (a0 : PySem.W.nsIn K mainGlobals "pieces_in" = some (some (.ref f0)))
    (l0 : K.lookup f0 = some ⟨oc0, od0, .func (PySem.W.fnOf "pieces_in" "pieces_in" (defArgs s_pieces_in) (defBody s_pieces_in) (defScope s_pieces_in) .none kV0 dc0 pm0 an0 cd0 ct0), sl0⟩) (c0 : PySem.W.codeIn K cd0 "pieces_in" = true) (k0 : PySem.W.keepIn K (.ref f0) = true)
    (a1 : PySem.W.nsIn K mainGlobals "figures_in" = some (some (.ref f1)))
    (l1 : K.lookup f1 = some ⟨oc1, od1, .func (PySem.W.fnOf "figures_in" "figures_in" (defArgs s_figures_in) (defBody s_figures_in) (defScope s_figures_in) .none kV1 dc1 pm1 an1 cd1 ct1), sl1⟩) (c1 : PySem.W.codeIn K cd1 "figures_in" = true) (k1 : PySem.W.keepIn K (.ref f1) = true)
    (a2 : PySem.W.nsIn K mainGlobals "spans_in" = some (some (.ref f2)))
    (l2 : K.lookup f2 = some ⟨oc2, od2, .func (PySem.W.fnOf "spans_in" "spans_in" (defArgs s_spans_in) (defBody s_spans_in) (defScope s_spans_in) .none kV2 dc2 pm2 an2 cd2 ct2), sl2⟩) (c2 : PySem.W.codeIn K cd2 "spans_in" = true) (k2 : PySem.W.keepIn K (.ref f2) = true)
    (l3 : K.lookup f3 = some ⟨oc3, od3, .func (PySem.W.fnOf "__init__" "Galley.__init__" (defArgs s_Galley_init) (defBody s_Galley_init) (defScope s_Galley_init) (.ref dtT3) kV3 dc3 pm3 an3 cd3 ct3), sl3⟩) (c3 : PySem.W.codeIn K cd3 "Galley.__init__" = true) (k3 : PySem.W.keepIn K (.ref f3) = true)
    (lT3 : K.lookup dtT3 = some ⟨ocT3, odT3, .seq #[.ref dtE3] nT3, slT3⟩) (lE3 : K.lookup dtE3 = some ⟨.type "tuple", odE3, .seq #[] nE3, slE3⟩)
    (l4 : K.lookup f4 = some ⟨oc4, od4, .func (PySem.W.fnOf "__len__" "Galley.__len__" (defArgs s_Galley_len) (defBody s_Galley_len) (defScope s_Galley_len) .none kV4 dc4 pm4 an4 cd4 ct4), sl4⟩) (c4 : PySem.W.codeIn K cd4 "Galley.__len__" = true) (k4 : PySem.W.keepIn K (.ref f4) = true)
    (a5 : PySem.W.nsIn K mainGlobals "long_galley" = some (some (.ref f5)))
    (l5 : K.lookup f5 = some ⟨oc5, od5, .func (PySem.W.fnOf "long_galley" "long_galley" (defArgs s_long_galley) (defBody s_long_galley) (defScope s_long_galley) .none kV5 dc5 pm5 an5 cd5 ct5), sl5⟩) (c5 : PySem.W.codeIn K cd5 "long_galley" = true) (k5 : PySem.W.keepIn K (.ref f5) = true)
    (a6 : PySem.W.nsIn K mainGlobals "rows_below" = some (some (.ref f6)))
    (l6 : K.lookup f6 = some ⟨oc6, od6, .func (PySem.W.fnOf "rows_below" "rows_below" (defArgs s_rows_below) (defBody s_rows_below) (defScope s_rows_below) .none kV6 dc6 pm6 an6 cd6 ct6), sl6⟩) (c6 : PySem.W.codeIn K cd6 "rows_below" = true) (k6 : PySem.W.keepIn K (.ref f6) = true)
    (a7 : PySem.W.nsIn K mainGlobals "block_of_case" = some (some (.ref f7)))
    (l7 : K.lookup f7 = some ⟨oc7, od7, .func (PySem.W.fnOf "block_of_case" "block_of_case" (defArgs s_block_of_case) (defBody s_block_of_case) (defScope s_block_of_case) .none kV7 dc7 pm7 an7 cd7 ct7), sl7⟩) (c7 : PySem.W.codeIn K cd7 "block_of_case" = true) (k7 : PySem.W.keepIn K (.ref f7) = true)
    (l8 : K.lookup f8 = some ⟨oc8, od8, .func (PySem.W.fnOf "__init__" "Family.__init__" (defArgs s_Family_init) (defBody s_Family_init) (defScope s_Family_init) .none kV8 dc8 pm8 an8 cd8 ct8), sl8⟩) (c8 : PySem.W.codeIn K cd8 "Family.__init__" = true) (k8 : PySem.W.keepIn K (.ref f8) = true)
    (l9 : K.lookup f9 = some ⟨oc9, od9, .func (PySem.W.fnOf "galley_of" "Family.galley_of" (defArgs s_Family_galley_of) (defBody s_Family_galley_of) (defScope s_Family_galley_of) .none kV9 dc9 pm9 an9 cd9 ct9), sl9⟩) (c9 : PySem.W.codeIn K cd9 "Family.galley_of" = true) (k9 : PySem.W.keepIn K (.ref f9) = true)
    (l10 : K.lookup f10 = some ⟨oc10, od10, .func (PySem.W.fnOf "tellings_from" "Family.tellings_from" (defArgs s_Family_tellings_from) (defBody s_Family_tellings_from) (defScope s_Family_tellings_from) .none kV10 dc10 pm10 an10 cd10 ct10), sl10⟩) (c10 : PySem.W.codeIn K cd10 "Family.tellings_from" = true) (k10 : PySem.W.keepIn K (.ref f10) = true)
    (l11 : K.lookup f11 = some ⟨oc11, od11, .func (PySem.W.fnOf "every_telling" "Family.every_telling" (defArgs s_Family_every_telling) (defBody s_Family_every_telling) (defScope s_Family_every_telling) .none kV11 dc11 pm11 an11 cd11 ct11), sl11⟩) (c11 : PySem.W.codeIn K cd11 "Family.every_telling" = true) (k11 : PySem.W.keepIn K (.ref f11) = true)
    (a12 : PySem.W.nsIn K mainGlobals "_law_cell" = some (some (.ref f12)))
    (l12 : K.lookup f12 = some ⟨oc12, od12, .func (PySem.W.fnOf "_law_cell" "_law_cell" (defArgs s_l_cell) (defBody s_l_cell) (defScope s_l_cell) .none kV12 dc12 pm12 an12 cd12 ct12), sl12⟩) (c12 : PySem.W.codeIn K cd12 "_law_cell" = true) (k12 : PySem.W.keepIn K (.ref f12) = true)
    (a13 : PySem.W.nsIn K mainGlobals "_law_row" = some (some (.ref f13)))
    (l13 : K.lookup f13 = some ⟨oc13, od13, .func (PySem.W.fnOf "_law_row" "_law_row" (defArgs s_l_row) (defBody s_l_row) (defScope s_l_row) .none kV13 dc13 pm13 an13 cd13 ct13), sl13⟩) (c13 : PySem.W.codeIn K cd13 "_law_row" = true) (k13 : PySem.W.keepIn K (.ref f13) = true)
    (a14 : PySem.W.nsIn K mainGlobals "_law_number" = some (some (.ref f14)))
    (l14 : K.lookup f14 = some ⟨oc14, od14, .func (PySem.W.fnOf "_law_number" "_law_number" (defArgs s_l_number) (defBody s_l_number) (defScope s_l_number) .none kV14 dc14 pm14 an14 cd14 ct14), sl14⟩) (c14 : PySem.W.codeIn K cd14 "_law_number" = true) (k14 : PySem.W.keepIn K (.ref f14) = true)
    (a15 : PySem.W.nsIn K mainGlobals "_law_same" = some (some (.ref f15)))
    (l15 : K.lookup f15 = some ⟨oc15, od15, .func (PySem.W.fnOf "_law_same" "_law_same" (defArgs s_l_same) (defBody s_l_same) (defScope s_l_same) .none kV15 dc15 pm15 an15 cd15 ct15), sl15⟩) (c15 : PySem.W.codeIn K cd15 "_law_same" = true) (k15 : PySem.W.keepIn K (.ref f15) = true)
    (a16 : PySem.W.nsIn K mainGlobals "_law_case" = some (some (.ref f16)))
    (l16 : K.lookup f16 = some ⟨oc16, od16, .func (PySem.W.fnOf "_law_case" "_law_case" (defArgs s_l_case) (defBody s_l_case) (defScope s_l_case) .none kV16 dc16 pm16 an16 cd16 ct16), sl16⟩) (c16 : PySem.W.codeIn K cd16 "_law_case" = true) (k16 : PySem.W.keepIn K (.ref f16) = true)
    (a17 : PySem.W.nsIn K mainGlobals "_law_some" = some (some (.ref f17)))
    (l17 : K.lookup f17 = some ⟨oc17, od17, .func (PySem.W.fnOf "_law_some" "_law_some" (defArgs s_l_some) (defBody s_l_some) (defScope s_l_some) .none kV17 dc17 pm17 an17 cd17 ct17), sl17⟩) (c17 : PySem.W.codeIn K cd17 "_law_some" = true) (k17 : PySem.W.keepIn K (.ref f17) = true)
    (a18 : PySem.W.nsIn K mainGlobals "_law_telling" = some (some (.ref f18)))
    (l18 : K.lookup f18 = some ⟨oc18, od18, .func (PySem.W.fnOf "_law_telling" "_law_telling" (defArgs s_l_telling) (defBody s_l_telling) (defScope s_l_telling) .none kV18 dc18 pm18 an18 cd18 ct18), sl18⟩) (c18 : PySem.W.codeIn K cd18 "_law_telling" = true) (k18 : PySem.W.keepIn K (.ref f18) = true)
    (a19 : PySem.W.nsIn K mainGlobals "_law_blocks" = some (some (.ref f19)))
    (l19 : K.lookup f19 = some ⟨oc19, od19, .func (PySem.W.fnOf "_law_blocks" "_law_blocks" (defArgs s_l_blocks) (defBody s_l_blocks) (defScope s_l_blocks) .none kV19 dc19 pm19 an19 cd19 ct19), sl19⟩) (c19 : PySem.W.codeIn K cd19 "_law_blocks" = true) (k19 : PySem.W.keepIn K (.ref f19) = true)
    (a20 : PySem.W.nsIn K mainGlobals "_law_galley_is" = some (some (.ref f20)))
    (l20 : K.lookup f20 = some ⟨oc20, od20, .func (PySem.W.fnOf "_law_galley_is" "_law_galley_is" (defArgs s_l_galley_is) (defBody s_l_galley_is) (defScope s_l_galley_is) .none kV20 dc20 pm20 an20 cd20 ct20), sl20⟩) (c20 : PySem.W.codeIn K cd20 "_law_galley_is" = true) (k20 : PySem.W.keepIn K (.ref f20) = true)
    (a21 : PySem.W.nsIn K mainGlobals "_law_is_telling" = some (some (.ref f21)))
    (l21 : K.lookup f21 = some ⟨oc21, od21, .func (PySem.W.fnOf "_law_is_telling" "_law_is_telling" (defArgs s_l_is_telling) (defBody s_l_is_telling) (defScope s_l_is_telling) .none kV21 dc21 pm21 an21 cd21 ct21), sl21⟩) (c21 : PySem.W.codeIn K cd21 "_law_is_telling" = true) (k21 : PySem.W.keepIn K (.ref f21) = true)
    (a22 : PySem.W.nsIn K mainGlobals "_law_count" = some (some (.ref f22)))
    (l22 : K.lookup f22 = some ⟨oc22, od22, .func (PySem.W.fnOf "_law_count" "_law_count" (defArgs s_l_count) (defBody s_l_count) (defScope s_l_count) .none kV22 dc22 pm22 an22 cd22 ct22), sl22⟩) (c22 : PySem.W.codeIn K cd22 "_law_count" = true) (k22 : PySem.W.keepIn K (.ref f22) = true)
    (a23 : PySem.W.nsIn K mainGlobals "_law_all_told" = some (some (.ref f23)))
    (l23 : K.lookup f23 = some ⟨oc23, od23, .func (PySem.W.fnOf "_law_all_told" "_law_all_told" (defArgs s_l_all_told) (defBody s_l_all_told) (defScope s_l_all_told) .none kV23 dc23 pm23 an23 cd23 ct23), sl23⟩) (c23 : PySem.W.codeIn K cd23 "_law_all_told" = true) (k23 : PySem.W.keepIn K (.ref f23) = true)
    (a24 : PySem.W.nsIn K mainGlobals "law" = some (some (.ref f24)))
    (l24 : K.lookup f24 = some ⟨oc24, od24, .func (PySem.W.fnOf "law" "law" (defArgs s_law) (defBody s_law) (defScope s_law) .none kV24 dc24 pm24 an24 cd24 ct24), sl24⟩) (c24 : PySem.W.codeIn K cd24 "law" = true) (k24 : PySem.W.keepIn K (.ref f24) = true)
    (l25 : K.lookup f25 = some ⟨oc25, od25, .func (PySem.W.fnOf "__iter__" "Galley.__iter__" (defArgs s_Galley_iter) (defBody s_Galley_iter) (defScope s_Galley_iter) .none kV25 dc25 pm25 an25 cd25 ct25), sl25⟩) (c25 : PySem.W.codeIn K cd25 "Galley.__iter__" = true) (k25 : PySem.W.keepIn K (.ref f25) = true)
    (z_bool : PySem.W.nsIn K mainGlobals "bool" = some none)
    (z_enumerate : PySem.W.nsIn K mainGlobals "enumerate" = some none)
    (z_int : PySem.W.nsIn K mainGlobals "int" = some none)
    (z_isinstance : PySem.W.nsIn K mainGlobals "isinstance" = some none)
    (z_iter : PySem.W.nsIn K mainGlobals "iter" = some none)
    (z_len : PySem.W.nsIn K mainGlobals "len" = some none)
    (z_list : PySem.W.nsIn K mainGlobals "list" = some none)
    (z_range : PySem.W.nsIn K mainGlobals "range" = some none)
    (z_set : PySem.W.nsIn K mainGlobals "set" = some none)
    (z_sorted : PySem.W.nsIn K mainGlobals "sorted" = some none)
    (z_str : PySem.W.nsIn K mainGlobals "str" = some none)
    (z_sum : PySem.W.nsIn K mainGlobals "sum" = some none)
    (z_tuple : PySem.W.nsIn K mainGlobals "tuple" = some none)
    (y_MOST_FIGURES : PySem.W.nsIn K mainGlobals "MOST_FIGURES" = some (some (.int 4 t_MOST_FIGURES)))
    (y_MOST_PIECES : PySem.W.nsIn K mainGlobals "MOST_PIECES" = some (some (.int 40 t_MOST_PIECES)))
    (x_TooLarge : PySem.W.nsIn K mainGlobals "TooLarge" = some (some (.ref A_TooLarge)))
    (X1_TooLarge : K.lookup A_TooLarge = some (excClassObj nm_TooLarge qq_TooLarge A_TooLarge N_TooLarge bs_TooLarge bm_TooLarge true sn_TooLarge sb_TooLarge ab_TooLarge co_TooLarge dd_TooLarge m0_TooLarge m1_TooLarge m2_TooLarge m3_TooLarge m5_TooLarge "ValueError.__new__")) (X2_TooLarge : PySem.HandSPX.refsVE bm_TooLarge = true)
    (X3_TooLarge : PySem.W.findIn K (.ref A_TooLarge) "__setattr__" = some (some (.builtin "object.__setattr__"))) (X4_TooLarge : PySem.W.subIn K (.ref A_TooLarge) (.type "BaseException") = some true) (X5_TooLarge : PySem.W.typeIn K (.ref A_TooLarge) = some (.type "type")) (X6_TooLarge : PySem.W.keepIn K (.ref A_TooLarge) = true)
    (X7_TooLarge : PySem.W.findIn K (.ref A_TooLarge) "__init__" = some (some (.ref fI_TooLarge))) (X8_TooLarge : PySem.W.typeIn K (.ref fI_TooLarge) = some (.type "function")) (X9_TooLarge : K.lookup fI_TooLarge = some ⟨oc_TooLarge, od_TooLarge, .func (PySem.W.fnOf "__init__" "TooLarge.__init__" (defArgs s_TooLarge) (defBody s_TooLarge) (defScope s_TooLarge) .none kV_TooLarge dc_TooLarge pm_TooLarge an_TooLarge cd_TooLarge ct_TooLarge), sl_TooLarge⟩) (Xa_TooLarge : PySem.W.codeIn K cd_TooLarge "TooLarge.__init__" = true) (Xb_TooLarge : PySem.W.keepIn K (.ref fI_TooLarge) = true)
    (Y0_TooLarge : PySem.W.findIn K (.ref A_TooLarge) "many" = some none)
    (Xc_TooLarge : PySem.W.findIn K (.ref A_TooLarge) "__getattribute__" = some (some (.builtin "BaseException.__getattribute__"))) (Xd_TooLarge : PySem.W.findIn K (.ref A_TooLarge) "__getattr__" = some none) (Xe_TooLarge : PySem.W.hasDictIn K A_TooLarge = true)
    (Xf_TooLarge : PySem.W.findIn K (.ref A_TooLarge) "__class__" = some (some (.builtin "object.__class__"))) (Xg_TooLarge : PySem.W.specialIn K (.builtin "object.__class__") "__get__" = some (some (.builtin "getset_descriptor.__get__"))) (Xh_TooLarge : PySem.W.takesIn K (.builtin "object.__class__") = some true) (Xi_TooLarge : PySem.W.mroIn K A_TooLarge (.type "object") = some true)
    (x_Family : PySem.W.nsIn K mainGlobals "Family" = some (some (.ref A_Family))) (P1_Family : PySem.W.plainGet K A_Family Str.empty = true) (P2_Family : PySem.W.hasDictIn K A_Family = true) (P3_Family : PySem.W.plainOver K A_Family = true) (P4_Family : PySem.W.findIn K (.ref A_Family) "__setattr__" = some (some (.builtin "object.__setattr__")))
    (x_Galley : PySem.W.nsIn K mainGlobals "Galley" = some (some (.ref A_Galley))) (P1_Galley : PySem.W.plainGet K A_Galley Str.empty = true) (P2_Galley : PySem.W.hasDictIn K A_Galley = true) (P3_Galley : PySem.W.plainOver K A_Galley = true) (P4_Galley : PySem.W.findIn K (.ref A_Galley) "__setattr__" = some (some (.builtin "object.__setattr__")))
    (M1_Family : PySem.W.makesIn K A_Family = true) (M2_Family : PySem.W.findIn K (.ref A_Family) "__init__" = some (some (.ref f8))) (M3_Family : PySem.W.isFn K (.ref f8) = true) (M4_Family : PySem.W.keepIn K (.ref A_Family) = true)
    (M1_Galley : PySem.W.makesIn K A_Galley = true) (M2_Galley : PySem.W.findIn K (.ref A_Galley) "__init__" = some (some (.ref f3))) (M3_Galley : PySem.W.isFn K (.ref f3) = true) (M4_Galley : PySem.W.keepIn K (.ref A_Galley) = true)
    (N_Family_cases : PySem.W.findIn K (.ref A_Family) "cases" = some none)
    (N_Family_firsts : PySem.W.findIn K (.ref A_Family) "firsts" = some none)
    (N_Family_follows : PySem.W.findIn K (.ref A_Family) "follows" = some none)
    (N_Galley_all_figures : PySem.W.findIn K (.ref A_Galley) "all_figures" = some none)
    (N_Galley_all_pieces : PySem.W.findIn K (.ref A_Galley) "all_pieces" = some none)
    (N_Galley_blocks : PySem.W.findIn K (.ref A_Galley) "blocks" = some none)
    (N_Galley_spans : PySem.W.findIn K (.ref A_Galley) "spans" = some none)
    (m1_Family_every_telling : PySem.W.findIn K (.ref A_Family) "every_telling" = some (some (.ref f11))) (m2_Family_every_telling : PySem.W.isFn K (.ref f11) = true)
    (m1_Family_galley_of : PySem.W.findIn K (.ref A_Family) "galley_of" = some (some (.ref f9))) (m2_Family_galley_of : PySem.W.isFn K (.ref f9) = true)
    (m1_Family_tellings_from : PySem.W.findIn K (.ref A_Family) "tellings_from" = some (some (.ref f10))) (m2_Family_tellings_from : PySem.W.isFn K (.ref f10) = true)
    (m1_Galley___iter__ : PySem.W.findIn K (.ref A_Galley) "__iter__" = some (some (.ref f25))) (m2_Galley___iter__ : PySem.W.isFn K (.ref f25) = true)
    (m1_Galley___len__ : PySem.W.findIn K (.ref A_Galley) "__len__" = some (some (.ref f4))) (m2_Galley___len__ : PySem.W.isFn K (.ref f4) = true)
    (I1_Galley : PySem.W.findIn K (.ref A_Galley) "__class__" = some (some (.builtin "object.__class__"))) (I2_Galley : PySem.W.specialIn K (.builtin "object.__class__") "__get__" = some (some (.builtin "getset_descriptor.__get__"))) (I3_Galley : PySem.W.takesIn K (.builtin "object.__class__") = some true) (I4_Galley : PySem.W.mroIn K A_Galley (.type "object") = some true) (Q_Galley_self : PySem.W.kitOne K (.ref A_Galley) (.ref A_Galley) = some true)
    (Q_Galley_NoneType : PySem.W.kitOne K (.type "NoneType") (.ref A_Galley) = some false)
    (Q_Galley_bool : PySem.W.kitOne K (.type "bool") (.ref A_Galley) = some false)
    (Q_Galley_int : PySem.W.kitOne K (.type "int") (.ref A_Galley) = some false)
    (Q_Galley_str : PySem.W.kitOne K (.type "str") (.ref A_Galley) = some false)
    (Q_Galley_list : PySem.W.kitOne K (.type "list") (.ref A_Galley) = some false)
    (Q_Galley_tuple : PySem.W.kitOne K (.type "tuple") (.ref A_Galley) = some false)
    (Q_Galley_dict : PySem.W.kitOne K (.type "dict") (.ref A_Galley) = some false) :
    ∃ fd : FuncData, (∀ (s : Shared) (v : Value), BindsTo s fd ⟨[v], []⟩ [("_law_script", v)]) ∧ ∀ base : Heap, K.In base → base.Ns mainGlobals mg → FnOk l.prog w K mg base (L2N.CX l.prog w) 44 fa fd ["_law_script"] (spLaw K) := by
  have e := hfa.symm.trans (PySem.W.mg_of X G a24)
  cases e
  obtain ⟨T, e1, e2⟩ := txt_mk X G a0 l0 c0 k0 a1 l1 c1 k1 a2 l2 c2 k2 l3 c3 k3 lT3 lE3 l4 c4 k4 a5 l5 c5 k5 a6 l6 c6 k6 a7 l7 c7 k7 l8 c8 k8 l9 c9 k9 l10 c10 k10 l11 c11 k11 a12 l12 c12 k12 a13 l13 c13 k13 a14 l14 c14 k14 a15 l15 c15 k15 a16 l16 c16 k16 a17 l17 c17 k17 a18 l18 c18 k18 a19 l19 c19 k19 a20 l20 c20 k20 a21 l21 c21 k21 a22 l22 c22 k22 a23 l23 c23 k23 a24 l24 c24 k24 l25 c25 k25 z_bool z_enumerate z_int z_isinstance z_iter z_len z_list z_range z_set z_sorted z_str z_sum z_tuple y_MOST_FIGURES y_MOST_PIECES x_TooLarge X1_TooLarge X2_TooLarge X3_TooLarge X4_TooLarge X5_TooLarge X6_TooLarge X7_TooLarge X8_TooLarge X9_TooLarge Xa_TooLarge Xb_TooLarge Y0_TooLarge Xc_TooLarge Xd_TooLarge Xe_TooLarge Xf_TooLarge Xg_TooLarge Xh_TooLarge Xi_TooLarge x_Family P1_Family P2_Family P3_Family P4_Family x_Galley P1_Galley P2_Galley P3_Galley P4_Galley M1_Family M2_Family M3_Family M4_Family M1_Galley M2_Galley M3_Galley M4_Galley N_Family_cases N_Family_firsts N_Family_follows N_Galley_all_figures N_Galley_all_pieces N_Galley_blocks N_Galley_spans m1_Family_every_telling m2_Family_every_telling m1_Family_galley_of m2_Family_galley_of m1_Family_tellings_from m2_Family_tellings_from m1_Galley___iter__ m2_Galley___iter__ m1_Galley___len__ m2_Galley___len__ I1_Galley I2_Galley I3_Galley I4_Galley Q_Galley_self Q_Galley_NoneType Q_Galley_bool Q_Galley_int Q_Galley_str Q_Galley_list Q_Galley_tuple Q_Galley_dict
  refine ⟨PySem.W.fnOf "law" "law" (defArgs s_law) (defBody s_law) (defScope s_law) .none kV24 dc24 pm24 an24 cd24 ct24, fun s v => .of_eq rfl, fun base _ _ => ?_⟩
  have z := ok_end (P := l.prog) (w := w) (base := base) T
  rw [e1, e2] at z
  exact z
end Lk
end S_P_end
section S_P_top
set_option Elab.async false
set_option linter.all false
open PySem PySem.W PyProof.Rows
set_option maxRecDepth 100000 in
set_option maxHeartbeats 0 in
theorem PySem.Challenge.cw_laidforall_k44_families_holds : PySem.Challenge.rw_laidforall_k44_families.Holds := by
  w_on; o_law; k_head; (case hw => w_witness2)
  k_fill
  refine L2.walk_of (l := PySem.Challenge.rw_laidforall_k44_families) (n := 63) (k := 44) (x := "_law_script") (CX := fun w => L2N.CX PySem.Challenge.rw_laidforall_k44_families.prog w) (sp := fun w => Lk.spLaw _) rfl (by decide) rfl ⟨rfl, by decide, by decide⟩ (fun w h Y => PySem.W.kIn_of Y) ?F (fun _ _ a ns hl _ hS => ⟨a, ns, rfl, hS, hl, fun _ => rfl⟩) (fun _ _ _ _ _ h => Dx.cx_never h)
  case F =>
    intro w mg fa h KX G hmg
    refine' Lk.all_mk KX G hmg ?a0 ?l0 ?c0 ?k0 ?a1 ?l1 ?c1 ?k1 ?a2 ?l2 ?c2 ?k2 ?l3 ?c3 ?k3 ?lT3 ?lE3 ?l4 ?c4 ?k4 ?a5 ?l5 ?c5 ?k5 ?a6 ?l6 ?c6 ?k6 ?a7 ?l7 ?c7 ?k7 ?l8 ?c8 ?k8 ?l9 ?c9 ?k9 ?l10 ?c10 ?k10 ?l11 ?c11 ?k11 ?a12 ?l12 ?c12 ?k12 ?a13 ?l13 ?c13 ?k13 ?a14 ?l14 ?c14 ?k14 ?a15 ?l15 ?c15 ?k15 ?a16 ?l16 ?c16 ?k16 ?a17 ?l17 ?c17 ?k17 ?a18 ?l18 ?c18 ?k18 ?a19 ?l19 ?c19 ?k19 ?a20 ?l20 ?c20 ?k20 ?a21 ?l21 ?c21 ?k21 ?a22 ?l22 ?c22 ?k22 ?a23 ?l23 ?c23 ?k23 ?a24 ?l24 ?c24 ?k24 ?l25 ?c25 ?k25 ?z_bool ?z_enumerate ?z_int ?z_isinstance ?z_iter ?z_len ?z_list ?z_range ?z_set ?z_sorted ?z_str ?z_sum ?z_tuple ?y_MOST_FIGURES ?y_MOST_PIECES ?x_TooLarge ?X1_TooLarge ?X2_TooLarge ?X3_TooLarge ?X4_TooLarge ?X5_TooLarge ?X6_TooLarge ?X7_TooLarge ?X8_TooLarge ?X9_TooLarge ?Xa_TooLarge ?Xb_TooLarge ?Y0_TooLarge ?Xc_TooLarge ?Xd_TooLarge ?Xe_TooLarge ?Xf_TooLarge ?Xg_TooLarge ?Xh_TooLarge ?Xi_TooLarge ?x_Family ?P1_Family ?P2_Family ?P3_Family ?P4_Family ?x_Galley ?P1_Galley ?P2_Galley ?P3_Galley ?P4_Galley ?M1_Family ?M2_Family ?M3_Family ?M4_Family ?M1_Galley ?M2_Galley ?M3_Galley ?M4_Galley ?N_Family_cases ?N_Family_firsts ?N_Family_follows ?N_Galley_all_figures ?N_Galley_all_pieces ?N_Galley_blocks ?N_Galley_spans ?m1_Family_every_telling ?m2_Family_every_telling ?m1_Family_galley_of ?m2_Family_galley_of ?m1_Family_tellings_from ?m2_Family_tellings_from ?m1_Galley___iter__ ?m2_Galley___iter__ ?m1_Galley___len__ ?m2_Galley___len__ ?I1_Galley ?I2_Galley ?I3_Galley ?I4_Galley ?Q_Galley_self ?Q_Galley_NoneType ?Q_Galley_bool ?Q_Galley_int ?Q_Galley_str ?Q_Galley_list ?Q_Galley_tuple ?Q_Galley_dict
    (case y_MOST_FIGURES => k_is)
    (case y_MOST_PIECES => k_is)
    (case x_TooLarge => k_is)
    (case x_Family => k_is)
    (case x_Galley => k_is)
    (case M2_Family => k_is)
    (case M2_Galley => k_is)
    (case m1_Family_every_telling => k_is)
    (case m1_Family_galley_of => k_is)
    (case m1_Family_tellings_from => k_is)
    (case m1_Galley___iter__ => k_is)
    (case m1_Galley___len__ => k_is)
    (case a0 => k_is)
    (case l0 => k_is)
    (case c0 => k_is)
    (case k0 => k_is)
    (case a1 => k_is)
    (case l1 => k_is)
    (case c1 => k_is)
    (case k1 => k_is)
    (case a2 => k_is)
    (case l2 => k_is)
    (case c2 => k_is)
    (case k2 => k_is)
    (case l3 => k_is)
    (case c3 => k_is)
    (case k3 => k_is)
    (case lT3 => k_is)
    (case lE3 => k_is)
    (case l4 => k_is)
    (case c4 => k_is)
    (case k4 => k_is)
    (case a5 => k_is)
    (case l5 => k_is)
    (case c5 => k_is)
    (case k5 => k_is)
    (case a6 => k_is)
    (case l6 => k_is)
    (case c6 => k_is)
    (case k6 => k_is)
    (case a7 => k_is)
    (case l7 => k_is)
    (case c7 => k_is)
    (case k7 => k_is)
    (case l8 => k_is)
    (case c8 => k_is)
    (case k8 => k_is)
    (case l9 => k_is)
    (case c9 => k_is)
    (case k9 => k_is)
    (case l10 => k_is)
    (case c10 => k_is)
    (case k10 => k_is)
    (case l11 => k_is)
    (case c11 => k_is)
    (case k11 => k_is)
    (case a12 => k_is)
    (case l12 => k_is)
    (case c12 => k_is)
    (case k12 => k_is)
    (case a13 => k_is)
    (case l13 => k_is)
    (case c13 => k_is)
    (case k13 => k_is)
    (case a14 => k_is)
    (case l14 => k_is)
    (case c14 => k_is)
    (case k14 => k_is)
    (case a15 => k_is)
    (case l15 => k_is)
    (case c15 => k_is)
    (case k15 => k_is)
    (case a16 => k_is)
    (case l16 => k_is)
    (case c16 => k_is)
    (case k16 => k_is)
    (case a17 => k_is)
    (case l17 => k_is)
    (case c17 => k_is)
    (case k17 => k_is)
    (case a18 => k_is)
    (case l18 => k_is)
    (case c18 => k_is)
    (case k18 => k_is)
    (case a19 => k_is)
    (case l19 => k_is)
    (case c19 => k_is)
    (case k19 => k_is)
    (case a20 => k_is)
    (case l20 => k_is)
    (case c20 => k_is)
    (case k20 => k_is)
    (case a21 => k_is)
    (case l21 => k_is)
    (case c21 => k_is)
    (case k21 => k_is)
    (case a22 => k_is)
    (case l22 => k_is)
    (case c22 => k_is)
    (case k22 => k_is)
    (case a23 => k_is)
    (case l23 => k_is)
    (case c23 => k_is)
    (case k23 => k_is)
    (case a24 => k_is)
    (case l24 => k_is)
    (case c24 => k_is)
    (case k24 => k_is)
    (case l25 => k_is)
    (case c25 => k_is)
    (case k25 => k_is)
    (case z_bool => k_is)
    (case z_enumerate => k_is)
    (case z_int => k_is)
    (case z_isinstance => k_is)
    (case z_iter => k_is)
    (case z_len => k_is)
    (case z_list => k_is)
    (case z_range => k_is)
    (case z_set => k_is)
    (case z_sorted => k_is)
    (case z_str => k_is)
    (case z_sum => k_is)
    (case z_tuple => k_is)
    (case X1_TooLarge => k_is)
    (case X2_TooLarge => decide +kernel)
    (case X3_TooLarge => k_is)
    (case X4_TooLarge => k_is)
    (case X5_TooLarge => k_is)
    (case X6_TooLarge => k_is)
    (case X7_TooLarge => k_is)
    (case X8_TooLarge => k_is)
    (case X9_TooLarge => k_is)
    (case Xa_TooLarge => k_is)
    (case Xb_TooLarge => k_is)
    (case Y0_TooLarge => k_is)
    (case Xc_TooLarge => k_is)
    (case Xd_TooLarge => k_is)
    (case Xe_TooLarge => k_is)
    (case Xf_TooLarge => k_is)
    (case Xg_TooLarge => k_is)
    (case Xh_TooLarge => k_is)
    (case Xi_TooLarge => k_is)
    (case P1_Family => k_is)
    (case P2_Family => k_is)
    (case P3_Family => k_is)
    (case P4_Family => k_is)
    (case P1_Galley => k_is)
    (case P2_Galley => k_is)
    (case P3_Galley => k_is)
    (case P4_Galley => k_is)
    (case M1_Family => k_is)
    (case M3_Family => k_is)
    (case M4_Family => k_is)
    (case M1_Galley => k_is)
    (case M3_Galley => k_is)
    (case M4_Galley => k_is)
    (case N_Family_cases => k_is)
    (case N_Family_firsts => k_is)
    (case N_Family_follows => k_is)
    (case N_Galley_all_figures => k_is)
    (case N_Galley_all_pieces => k_is)
    (case N_Galley_blocks => k_is)
    (case N_Galley_spans => k_is)
    (case m2_Family_every_telling => k_is)
    (case m2_Family_galley_of => k_is)
    (case m2_Family_tellings_from => k_is)
    (case m2_Galley___iter__ => k_is)
    (case m2_Galley___len__ => k_is)
    (case I1_Galley => k_is)
    (case I2_Galley => k_is)
    (case I3_Galley => k_is)
    (case I4_Galley => k_is)
    (case Q_Galley_self => first | k_is | rfl | decide +kernel)
    (case Q_Galley_NoneType => first | k_is | rfl | decide +kernel)
    (case Q_Galley_bool => first | k_is | rfl | decide +kernel)
    (case Q_Galley_int => first | k_is | rfl | decide +kernel)
    (case Q_Galley_str => first | k_is | rfl | decide +kernel)
    (case Q_Galley_list => first | k_is | rfl | decide +kernel)
    (case Q_Galley_tuple => first | k_is | rfl | decide +kernel)
    (case Q_Galley_dict => first | k_is | rfl | decide +kernel)
end S_P_top
